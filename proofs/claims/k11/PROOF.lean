import PyProof.Rows.All
import HandS.ForMost
import HandS.TupAny
import HandS.IsInst
import HandS.Style
import HandS.Flow
import HandS.Wide
import HandS.TupMul
import KE.DataEq
import KE.DataCmp
import KE.KEqDict
import HandS.Dict
import PyProof.StrOps2
import HandS.TupLen
import HandS.Conv
import HandS.Walk
import HandS.Zip
import KE.GoesEnum
import HandS.Small
import HandS.Text
import KE.SortData
import HandS.More
import PyProof.Rows.StrMeet
import HandS.SetBool
import HandS.SetFor
import HandS.SetKeys
import KE.DataMinMax
import PyProof.Claim2Refuses
import HandS.Iter
import HandS.DictComp
import PyProof.ListStr
import KE.KDictPairs
import PyProof.DictUpdate
import PyProof.Transfer
import HandS.TupSets
import HandS.Keys
import HandS.Defaults
import HandS.CallLocal
import HandS.Ends
import HandS.HeadEnd
import HandS.HeadHook2
import HandS.Head0
import HandS.Head1
import HandS.Head2
import HandS.HeadHook1
import PySem.Challenge.RW_rigeyes_k11_flashes_known
set_option Elab.async false
set_option linter.all false
set_option maxRecDepth 100000
set_option maxHeartbeats 0
/-! RE1: plain values as trees, and how an abstract heap of the hand layer bears them. -/
namespace RE
open PySem PySem.Spec PyProof.Rows L2

/-- plain values: trees, no heap. scr: the script; fn: a def of the module, by name -/
inductive D where
  | non | bl (b : Bool) | int (i : Int) | str (s : Str) | tup (xs : List D) | lst (xs : List D)
  | dic (t : Bool) (kvs : List (D × D)) | scr (ns : List Int) | fn (f : Str)

/-- a dict's key as a tree -/
def keyD : Key → D
  | .inl i => .int i
  | .inr s => .str s
/-- the pairs of the dict at a: keys as trees, values as they stand -/
def HD (t : Bool) (H : Hp) (a : Addr) (ps : List (D × V)) : Prop :=
  match t with
  | false => ∃ ks : List (Key × V), Rd H a (.dK ks) ∧ ps = ks.map fun q => (keyD q.1, q.2)
  | true => ∃ ks : List (List Key × V), Rd H a (.dT ks) ∧ ps = ks.map fun q => (.tup (q.1.map keyD), q.2)

mutual
/-- v bears d in H; every list and dict in it stands at a place that P allows -/
def Rep (P : Addr → Prop) (H : Hp) : D → V → Prop
  | .non, v => v = .non
  | .bl b, v => v = .bl b
  | .int i, v => v = .int i
  | .str s, v => v = .str s
  | .tup ds, v => ∃ a vs, v = .ref a ∧ H a = some (.tup vs) ∧ RepL P H ds vs
  | .lst ds, v => ∃ a vs, v = .ref a ∧ P a ∧ H a = some (.lst vs) ∧ RepL P H ds vs
  | .dic t kvs, v => ∃ a ps, v = .ref a ∧ P a ∧ HD t H a ps ∧ RepKV P H kvs ps
  | .scr ns, v => ∃ a o, v = .ref a ∧ H a = some (.frz o (.lst (ns.map V.int)))
  | .fn _, _ => False
def RepL (P : Addr → Prop) (H : Hp) : List D → List V → Prop
  | [], vs => vs = []
  | d :: ds, vs => ∃ v r, vs = v :: r ∧ Rep P H d v ∧ RepL P H ds r
def RepKV (P : Addr → Prop) (H : Hp) : List (D × D) → List (D × V) → Prop
  | [], ps => ps = []
  | (k, d) :: kvs, ps => ∃ v r, ps = (k, v) :: r ∧ Rep P H d v ∧ RepKV P H kvs r
end

theorem HD.same {t : Bool} {H H' : Hp} {a : Addr} {ps : List (D × V)} (s : Same H H') (h : HD t H a ps) : HD t H' a ps := by
  cases t
  · obtain ⟨ks, (r | ⟨o, r⟩), e⟩ := h
    · exact ⟨ks, .inl (s _ _ r), e⟩
    · exact ⟨ks, .inr ⟨o, s _ _ r⟩, e⟩
  · obtain ⟨ks, (r | ⟨o, r⟩), e⟩ := h
    · exact ⟨ks, .inl (s _ _ r), e⟩
    · exact ⟨ks, .inr ⟨o, s _ _ r⟩, e⟩
theorem HD.some {t : Bool} {H : Hp} {a : Addr} {ps : List (D × V)} (h : HD t H a ps) : H a ≠ none := by
  cases t <;> obtain ⟨ks, (r | ⟨o, r⟩), e⟩ := h <;> (rw [r]; simp)

mutual
theorem Rep.mono {P P' : Addr → Prop} {H H' : Hp} (s : Same H H') (hp : ∀ a, H a ≠ none → P a → P' a) : ∀ (d : D) (v : V), Rep P H d v → Rep P' H' d v
  | .non, v, h => by unfold Rep at h ⊢; exact h
  | .bl b, v, h => by unfold Rep at h ⊢; exact h
  | .int i, v, h => by unfold Rep at h ⊢; exact h
  | .str x, v, h => by unfold Rep at h ⊢; exact h
  | .tup ds, v, h => by
    unfold Rep at h ⊢
    obtain ⟨a, vs, e, h1, h2⟩ := h
    exact ⟨a, vs, e, s _ _ h1, RepL.mono s hp ds vs h2⟩
  | .lst ds, v, h => by
    unfold Rep at h ⊢
    obtain ⟨a, vs, e, h0, h1, h2⟩ := h
    exact ⟨a, vs, e, hp a (by rw [h1]; simp) h0, s _ _ h1, RepL.mono s hp ds vs h2⟩
  | .dic t kvs, v, h => by
    unfold Rep at h ⊢
    obtain ⟨a, ps, e, h0, h1, h2⟩ := h
    exact ⟨a, ps, e, hp a h1.some h0, h1.same s, RepKV.mono s hp kvs ps h2⟩
  | .scr ns, v, h => by
    unfold Rep at h ⊢
    obtain ⟨a, o, e, h1⟩ := h
    exact ⟨a, o, e, s _ _ h1⟩
  | .fn f, v, h => by unfold Rep at h; exact h.elim
theorem RepL.mono {P P' : Addr → Prop} {H H' : Hp} (s : Same H H') (hp : ∀ a, H a ≠ none → P a → P' a) : ∀ (ds : List D) (vs : List V), RepL P H ds vs → RepL P' H' ds vs
  | [], vs, h => by unfold RepL at h ⊢; exact h
  | d :: ds, vs, h => by
    unfold RepL at h ⊢
    obtain ⟨v, r, e, h1, h2⟩ := h
    exact ⟨v, r, e, Rep.mono s hp d v h1, RepL.mono s hp ds r h2⟩
theorem RepKV.mono {P P' : Addr → Prop} {H H' : Hp} (s : Same H H') (hp : ∀ a, H a ≠ none → P a → P' a) : ∀ (kvs : List (D × D)) (ps : List (D × V)), RepKV P H kvs ps → RepKV P' H' kvs ps
  | [], ps, h => by unfold RepKV at h ⊢; exact h
  | (k, d) :: kvs, ps, h => by
    unfold RepKV at h ⊢
    obtain ⟨v, r, e, h1, h2⟩ := h
    exact ⟨v, r, e, Rep.mono s hp d v h1, RepKV.mono s hp kvs r h2⟩
end
theorem Rep.same {P : Addr → Prop} {H H' : Hp} (s : Same H H') {d : D} {v : V} (h : Rep P H d v) : Rep P H' d v := Rep.mono s (fun _ _ p => p) d v h
theorem RepL.same {P : Addr → Prop} {H H' : Hp} (s : Same H H') {d : List D} {v : List V} (h : RepL P H d v) : RepL P H' d v := RepL.mono s (fun _ _ p => p) d v h
theorem RepKV.same {P : Addr → Prop} {H H' : Hp} (s : Same H H') {d : List (D × D)} {v : List (D × V)} (h : RepKV P H d v) : RepKV P H' d v := RepKV.mono s (fun _ _ p => p) d v h
theorem Rep.weak {P P' : Addr → Prop} {H : Hp} (hp : ∀ a, P a → P' a) {d : D} {v : V} (h : Rep P H d v) : Rep P' H d v := Rep.mono (Same.refl H) (fun a _ p => hp a p) d v h
theorem RepL.weak {P P' : Addr → Prop} {H : Hp} (hp : ∀ a, P a → P' a) {d : List D} {v : List V} (h : RepL P H d v) : RepL P' H d v := RepL.mono (Same.refl H) (fun a _ p => hp a p) d v h
theorem RepKV.weak {P P' : Addr → Prop} {H : Hp} (hp : ∀ a, P a → P' a) {d : List (D × D)} {v : List (D × V)} (h : RepKV P H d v) : RepKV P' H d v := RepKV.mono (Same.refl H) (fun a _ p => hp a p) d v h
/-- a place where nothing stands is not among those that bear it -/
theorem Rep.avoid {P : Addr → Prop} {H : Hp} {a : Addr} (n : H a = none) {d : D} {v : V} (h : Rep P H d v) : Rep (fun b => P b ∧ b ≠ a) H d v :=
  Rep.mono (Same.refl H) (fun b hb p => ⟨p, fun e => hb (e ▸ n)⟩) d v h
theorem RepL.avoid {P : Addr → Prop} {H : Hp} {a : Addr} (n : H a = none) {d : List D} {v : List V} (h : RepL P H d v) : RepL (fun b => P b ∧ b ≠ a) H d v :=
  RepL.mono (Same.refl H) (fun b hb p => ⟨p, fun e => hb (e ▸ n)⟩) d v h
theorem RepKV.avoid {P : Addr → Prop} {H : Hp} {a : Addr} (n : H a = none) {d : List (D × D)} {v : List (D × V)} (h : RepKV P H d v) : RepKV (fun b => P b ∧ b ≠ a) H d v :=
  RepKV.mono (Same.refl H) (fun b hb p => ⟨p, fun e => hb (e ▸ n)⟩) d v h

/-- an object that may change: a list or a dict (not locked) -/
def Chg : Option HO → Prop
  | some (.lst _) => True
  | some (.dK _) => True
  | some (.dT _) => True
  | _ => False
theorem Rd.upd_ne {H : Hp} {a b : Addr} {o u : HO} (h : Rd H b u) (ne : b ≠ a) : Rd (upd H a o) b u := by
  rcases h with h | ⟨x, h⟩
  · exact .inl (by rw [L2.upd_ne ne]; exact h)
  · exact .inr ⟨x, by rw [L2.upd_ne ne]; exact h⟩
theorem HD.upd_ne {t : Bool} {H : Hp} {a b : Addr} {o : HO} {ps : List (D × V)} (h : HD t H b ps) (ne : b ≠ a) : HD t (upd H a o) b ps := by
  cases t <;> obtain ⟨ks, r, e⟩ := h <;> exact ⟨ks, Rd.upd_ne r ne, e⟩
mutual
/-- a list or dict that is not among those that bear it is changed -/
theorem Rep.chg {P : Addr → Prop} {H : Hp} {a : Addr} {o : HO} (c : Chg (H a)) (np : ¬ P a) : ∀ (d : D) (v : V), Rep P H d v → Rep P (upd H a o) d v
  | .non, v, h => by unfold Rep at h ⊢; exact h
  | .bl b, v, h => by unfold Rep at h ⊢; exact h
  | .int i, v, h => by unfold Rep at h ⊢; exact h
  | .str x, v, h => by unfold Rep at h ⊢; exact h
  | .tup ds, v, h => by
    unfold Rep at h ⊢
    obtain ⟨b, vs, e, h1, h2⟩ := h
    refine ⟨b, vs, e, ?_, RepL.chg c np ds vs h2⟩
    rw [upd_ne (fun q => by rw [q] at h1; rw [h1] at c; exact c)]; exact h1
  | .lst ds, v, h => by
    unfold Rep at h ⊢
    obtain ⟨b, vs, e, h0, h1, h2⟩ := h
    refine ⟨b, vs, e, h0, ?_, RepL.chg c np ds vs h2⟩
    rw [upd_ne (by intro q; subst q; exact np h0)]; exact h1
  | .dic t kvs, v, h => by
    unfold Rep at h ⊢
    obtain ⟨b, ps, e, h0, h1, h2⟩ := h
    exact ⟨b, ps, e, h0, h1.upd_ne (by intro q; subst q; exact np h0), RepKV.chg c np kvs ps h2⟩
  | .scr ns, v, h => by
    unfold Rep at h ⊢
    obtain ⟨b, ob, e, h1⟩ := h
    refine ⟨b, ob, e, ?_⟩
    rw [upd_ne (fun q => by rw [q] at h1; rw [h1] at c; exact c)]; exact h1
  | .fn f, v, h => by unfold Rep at h; exact h.elim
theorem RepL.chg {P : Addr → Prop} {H : Hp} {a : Addr} {o : HO} (c : Chg (H a)) (np : ¬ P a) : ∀ (ds : List D) (vs : List V), RepL P H ds vs → RepL P (upd H a o) ds vs
  | [], vs, h => by unfold RepL at h ⊢; exact h
  | d :: ds, vs, h => by
    unfold RepL at h ⊢
    obtain ⟨v, r, e, h1, h2⟩ := h
    exact ⟨v, r, e, Rep.chg c np d v h1, RepL.chg c np ds r h2⟩
theorem RepKV.chg {P : Addr → Prop} {H : Hp} {a : Addr} {o : HO} (c : Chg (H a)) (np : ¬ P a) : ∀ (kvs : List (D × D)) (ps : List (D × V)), RepKV P H kvs ps → RepKV P (upd H a o) kvs ps
  | [], ps, h => by unfold RepKV at h ⊢; exact h
  | (k, d) :: kvs, ps, h => by
    unfold RepKV at h ⊢
    obtain ⟨v, r, e, h1, h2⟩ := h
    exact ⟨v, r, e, Rep.chg c np d v h1, RepKV.chg c np kvs r h2⟩
end

theorem HD.inj {t t' : Bool} {H : Hp} {a : Addr} {ps qs : List (D × V)} (h : HD t H a ps) (g : HD t' H a qs) : t = t' ∧ ps = qs := by
  cases t <;> cases t' <;> obtain ⟨ks, (r | ⟨o, r⟩), e⟩ := h <;> obtain ⟨ks', (r' | ⟨o', r'⟩), e'⟩ := g <;>
    (rw [r] at r'; cases r' <;> exact ⟨rfl, by rw [e, e']⟩)
theorem HD.obj {t : Bool} {H : Hp} {a : Addr} {ps : List (D × V)} (h : HD t H a ps) {o : HO} (e : H a = Option.some o) : (∀ xs, o ≠ .tup xs) ∧ (∀ xs, o ≠ .lst xs) ∧ ∀ ob xs, o ≠ .frz ob (.lst xs) := by
  cases t <;> obtain ⟨ks, (r | ⟨o', r⟩), _⟩ := h <;> (rw [e] at r; cases r; exact ⟨(fun _ z => nomatch z), (fun _ z => nomatch z), (fun _ _ z => nomatch z)⟩)
mutual
theorem Rep.inj {P P' : Addr → Prop} {H : Hp} : ∀ (d d' : D) (v : V), Rep P H d v → Rep P' H d' v → d = d'
  | .non, d', v, h, g => by cases d' <;> simp only [Rep] at h g <;> simp_all
  | .bl b, d', v, h, g => by cases d' <;> simp only [Rep] at h g <;> simp_all
  | .int i, d', v, h, g => by cases d' <;> simp only [Rep] at h g <;> simp_all
  | .str x, d', v, h, g => by cases d' <;> simp only [Rep] at h g <;> simp_all
  | .tup ds, d', v, h, g => by
    simp only [Rep] at h
    obtain ⟨a, vs, e, h1, h2⟩ := h
    subst e
    cases d' with
    | tup es =>
      simp only [Rep] at g
      obtain ⟨b, ws, e, g1, g2⟩ := g
      cases e; rw [h1] at g1; cases g1
      rw [RepL.inj ds es vs h2 g2]
    | lst es => simp only [Rep] at g; obtain ⟨b, ws, e, _, g1, _⟩ := g; cases e; rw [h1] at g1; cases g1
    | dic t es => simp only [Rep] at g; obtain ⟨b, ws, e, _, g1, _⟩ := g; cases e; have q := g1.obj h1; first | exact absurd rfl (q.1 _) | exact absurd rfl (q.2.1 _) | exact absurd rfl (q.2.2 _ _)
    | scr ns => simp only [Rep] at g; obtain ⟨b, ws, e, g1⟩ := g; cases e; rw [h1] at g1; cases g1
    | _ => simp only [Rep] at g <;> simp_all
  | .lst ds, d', v, h, g => by
    simp only [Rep] at h
    obtain ⟨a, vs, e, _, h1, h2⟩ := h
    subst e
    cases d' with
    | tup es => simp only [Rep] at g; obtain ⟨b, ws, e, g1, _⟩ := g; cases e; rw [h1] at g1; cases g1
    | lst es =>
      simp only [Rep] at g
      obtain ⟨b, ws, e, _, g1, g2⟩ := g
      cases e; rw [h1] at g1; cases g1
      rw [RepL.inj ds es vs h2 g2]
    | dic t es => simp only [Rep] at g; obtain ⟨b, ws, e, _, g1, _⟩ := g; cases e; have q := g1.obj h1; first | exact absurd rfl (q.1 _) | exact absurd rfl (q.2.1 _) | exact absurd rfl (q.2.2 _ _)
    | scr ns => simp only [Rep] at g; obtain ⟨b, ws, e, g1⟩ := g; cases e; rw [h1] at g1; cases g1
    | _ => simp only [Rep] at g <;> simp_all
  | .dic t kvs, d', v, h, g => by
    simp only [Rep] at h
    obtain ⟨a, ps, e, _, h1, h2⟩ := h
    subst e
    cases d' with
    | tup es => simp only [Rep] at g; obtain ⟨b, ws, e, g1, _⟩ := g; cases e; exact absurd rfl ((h1.obj g1).1 _)
    | lst es => simp only [Rep] at g; obtain ⟨b, ws, e, _, g1, _⟩ := g; cases e; exact absurd rfl ((h1.obj g1).2.1 _)
    | dic t es =>
      simp only [Rep] at g
      obtain ⟨b, qs, e, _, g1, g2⟩ := g
      cases e
      obtain ⟨rfl, rfl⟩ := h1.inj g1
      rw [RepKV.inj kvs es ps h2 g2]
    | scr ns => simp only [Rep] at g; obtain ⟨b, ws, e, g1⟩ := g; cases e; exact absurd rfl ((h1.obj g1).2.2 _ _)
    | _ => simp only [Rep] at g <;> simp_all
  | .scr ns, d', v, h, g => by
    simp only [Rep] at h
    obtain ⟨a, o, e, h1⟩ := h
    subst e
    cases d' with
    | tup es => simp only [Rep] at g; obtain ⟨b, ws, e, g1, _⟩ := g; cases e; rw [h1] at g1; cases g1
    | lst es => simp only [Rep] at g; obtain ⟨b, ws, e, _, g1, _⟩ := g; cases e; rw [h1] at g1; cases g1
    | dic t es => simp only [Rep] at g; obtain ⟨b, ws, e, _, g1, _⟩ := g; cases e; have q := g1.obj h1; first | exact absurd rfl (q.1 _) | exact absurd rfl (q.2.1 _) | exact absurd rfl (q.2.2 _ _)
    | scr ms =>
      simp only [Rep] at g
      obtain ⟨b, o', e, g1⟩ := g
      cases e; rw [h1] at g1
      have q := HO.lst.inj (HO.frz.inj (Option.some.inj g1)).2
      have : ns = ms := by
        have := congrArg (List.map fun (x : V) => match x with | .int i => i | _ => 0) q
        simpa [List.map_map, Function.comp_def] using this
      rw [this]
    | _ => simp only [Rep] at g <;> simp_all
  | .fn f, d', v, h, g => by simp only [Rep] at h
theorem RepL.inj {P P' : Addr → Prop} {H : Hp} : ∀ (ds ds' : List D) (vs : List V), RepL P H ds vs → RepL P' H ds' vs → ds = ds'
  | [], [], _, _, _ => rfl
  | [], _ :: _, vs, h, g => by simp only [RepL] at h g; obtain ⟨v, r, e, _⟩ := g; rw [h] at e; cases e
  | _ :: _, [], vs, h, g => by simp only [RepL] at h g; obtain ⟨v, r, e, _⟩ := h; rw [g] at e; cases e
  | d :: ds, d' :: ds', vs, h, g => by
    simp only [RepL] at h g
    obtain ⟨v, r, e, h1, h2⟩ := h
    obtain ⟨v', r', e', g1, g2⟩ := g
    subst e; cases e'
    rw [Rep.inj d d' v h1 g1, RepL.inj ds ds' r h2 g2]
theorem RepKV.inj {P P' : Addr → Prop} {H : Hp} : ∀ (kvs kvs' : List (D × D)) (ps : List (D × V)), RepKV P H kvs ps → RepKV P' H kvs' ps → kvs = kvs'
  | [], [], _, _, _ => rfl
  | [], (k, d) :: _, vs, h, g => by simp only [RepKV] at h g; obtain ⟨v, r, e, _⟩ := g; rw [h] at e; cases e
  | (k, d) :: _, [], vs, h, g => by simp only [RepKV] at h g; obtain ⟨v, r, e, _⟩ := h; rw [g] at e; cases e
  | (k, d) :: kvs, (k', d') :: kvs', ps, h, g => by
    simp only [RepKV] at h g
    obtain ⟨v, r, e, h1, h2⟩ := h
    obtain ⟨v', r', e', g1, g2⟩ := g
    subst e; cases e'
    rw [Rep.inj d d' v h1 g1, RepKV.inj kvs kvs' r h2 g2]
end
end RE
/-! RE2: judgements: a piece of the text gives what a function of trees gives. -/
namespace RE
open PySem PySem.Spec PyProof.Rows L2

abbrev Fn := Str → List D → Option D
abbrev Env := List (Option D)
abbrev SE := Fn → Env → Option D
abbrev SB := Fn → Env → Option Bool
abbrev SA := Fn → Env → Option (List D)
/-- F: shared, never changed; M: the frame's own, may be changed; L: own, not changed for now; B: only looked at -/
inductive Kind | F | M | L | B
  deriving DecidableEq

/-- as Rep, the outermost object wherever it stands; defs of the module too -/
def RepB (mg : Str → Option Value) (P : Addr → Prop) (H : Hp) : D → V → Prop
  | .lst ds, v => ∃ a vs, v = .ref a ∧ H a = some (.lst vs) ∧ RepL P H ds vs
  | .dic t kvs, v => ∃ a ps, v = .ref a ∧ HD t H a ps ∧ RepKV P H kvs ps
  | .fn f, v => ∃ a, v = .ref a ∧ mg f = some (.ref a)
  | .non, v => v = .non
  | .bl b, v => v = .bl b
  | .int i, v => v = .int i
  | .str s, v => v = .str s
  | .tup ds, v => Rep P H (.tup ds) v
  | .scr ns, v => Rep P H (.scr ns) v

section
variable {mg : Str → Option Value} {P P' : Addr → Prop} {H H' : Hp} {d : D} {v : V}
theorem Rep.toB (h : Rep P H d v) : RepB mg P H d v := by
  cases d <;> simp only [Rep] at h <;> simp only [RepB, Rep] <;> first | exact h | skip
  · obtain ⟨a, vs, e, _, h1, h2⟩ := h; exact ⟨a, vs, e, h1, h2⟩
  · obtain ⟨a, vs, e, _, h1, h2⟩ := h; exact ⟨a, vs, e, h1, h2⟩
theorem RepB.mono (s : Same H H') (hp : ∀ a, H a ≠ none → P a → P' a) (h : RepB mg P H d v) : RepB mg P' H' d v := by
  cases d <;> simp only [RepB] at h ⊢ <;> first | exact h | exact Rep.mono s hp _ _ h | skip
  · obtain ⟨a, vs, e, h1, h2⟩ := h; exact ⟨a, vs, e, s _ _ h1, RepL.mono s hp _ _ h2⟩
  · obtain ⟨a, vs, e, h1, h2⟩ := h; exact ⟨a, vs, e, h1.same s, RepKV.mono s hp _ _ h2⟩
theorem RepB.same (s : Same H H') (h : RepB mg P H d v) : RepB mg P H' d v := h.mono s fun _ _ p => p
theorem RepB.weak (hp : ∀ a, P a → P' a) (h : RepB mg P H d v) : RepB mg P' H d v := h.mono (Same.refl H) fun a _ p => hp a p
end

/-- what a slot of a kind bears -/
def RepK (mg : Str → Option Value) (P : Addr → Prop) (H : Hp) (k : Kind) (d : D) (v : V) : Prop :=
  match k with
  | .F => Rep P H d v
  | _ => RepB mg P H d v
theorem RepK.toB {mg : Str → Option Value} {P : Addr → Prop} {H : Hp} {k : Kind} {d : D} {v : V} (h : RepK mg P H k d v) : RepB mg P H d v := by
  cases k with
  | F => exact Rep.toB h
  | _ => exact h
theorem RepK.mono {mg : Str → Option Value} {P P' : Addr → Prop} {H H' : Hp} {k : Kind} {d : D} {v : V} (s : Same H H') (hp : ∀ a, H a ≠ none → P a → P' a) (h : RepK mg P H k d v) : RepK mg P' H' k d v := by
  cases k with
  | F => exact Rep.mono s hp _ _ h
  | _ => exact RepB.mono s hp h
abbrev Ks := List Kind
def kd (ks : Ks) (i : Nat) : Kind := ks.getD i .F
/-- the slots bear the environment -/
def ER (mg : Str → Option Value) (P : Addr → Prop) (ks : Ks) (H : Hp) (σ : L2.St) (ρ : Env) : Prop :=
  ρ.length = σ.length ∧ ∀ i d, ρ[i]? = some (some d) → ∃ v, σ[i]? = some (some v) ∧ RepK mg P H (kd ks i) d v
theorem ER.mono {mg : Str → Option Value} {P P' : Addr → Prop} {ks : Ks} {H H' : Hp} {σ : L2.St} {ρ : Env} (s : Same H H') (hp : ∀ a, H a ≠ none → P a → P' a) (h : ER mg P ks H σ ρ) : ER mg P' ks H' σ ρ := ⟨h.1, fun i d e =>
  let ⟨v, e1, r⟩ := h.2 i d e
  ⟨v, e1, r.mono s hp⟩⟩
theorem ER.same {mg : Str → Option Value} {P : Addr → Prop} {ks : Ks} {H H' : Hp} {σ : L2.St} {ρ : Env} (s : Same H H') (h : ER mg P ks H σ ρ) : ER mg P ks H' σ ρ := h.mono s fun _ _ p => p
/-- all places where nothing stands are allowed -/
abbrev Fre (P : Addr → Prop) (H : Hp) : Prop := ∀ a, H a = none → P a
theorem Fre.same {P : Addr → Prop} {H H' : Hp} (f : Fre P H) (s : Same H H') : Fre P H' := fun a h => f a (s.free h)

/-- the outermost list or dict is new -/
def TopNew (H : Hp) : D → V → Prop
  | .lst _, v => ∀ a, v = .ref a → H a = none
  | .dic _ _, v => ∀ a, v = .ref a → H a = none
  | _, _ => True
theorem TopNew.back {H H' : Hp} {d : D} {v : V} (s : Same H H') (h : TopNew H' d v) : TopNew H d v := by
  cases d <;> simp only [TopNew] at h ⊢ <;> exact fun a e => s.free (h a e)

abbrev Cn (mg : Str → Option Value) (H : Hp) (ks : Ks) (F : Fn) (f : SE) (σ : L2.St) (R : (Addr → Prop) → D → V → Hp → Prop) (t : TE) : Prop :=
  ∀ (P : Addr → Prop) (ρ : Env) (Q : VK) (d : D), Fre P H → ER mg P ks H σ ρ → f F ρ = some d → (∀ v H', Same H H' → R P d v H' → Q v H') → t σ H Q

/-- e gives f; a new object where it is a list or dict -/
structure EvN (X : Cx) (ks : Ks) (F : Fn) (e : Expr) (f : SE) : Prop where
  ex : ∃ t : TE, PE X e t ∧ ∀ σ H, Cn X.mg H ks F f σ (fun P d v H' => Rep P H' d v ∧ TopNew H d v) t
/-- e gives f -/
structure EvE (X : Cx) (ks : Ks) (F : Fn) (e : Expr) (f : SE) : Prop where
  ex : ∃ t : TE, PE X e t ∧ ∀ σ H, Cn X.mg H ks F f σ (fun P d v H' => Rep P H' d v) t
/-- e gives f, to be looked at -/
structure EvP (X : Cx) (ks : Ks) (F : Fn) (e : Expr) (f : SE) : Prop where
  ex : ∃ t : TE, PE X e t ∧ ∀ σ H, Cn X.mg H ks F f σ (fun P d v H' => RepB X.mg P H' d v) t
theorem EvN.toE {X : Cx} {ks : Ks} {F : Fn} {e : Expr} {f : SE} (h : EvN X ks F e f) : EvE X ks F e f :=
  let ⟨t, p, q⟩ := h.ex
  ⟨t, p, fun σ H P ρ Q d fr er ev k => q σ H P ρ Q d fr er ev fun v H' s r => k v H' s r.1⟩
theorem EvE.toP {X : Cx} {ks : Ks} {F : Fn} {e : Expr} {f : SE} (h : EvE X ks F e f) : EvP X ks F e f :=
  let ⟨t, p, q⟩ := h.ex
  ⟨t, p, fun σ H P ρ Q d fr er ev k => q σ H P ρ Q d fr er ev fun v H' s r => k v H' s r.toB⟩
theorem EvN.toP {X : Cx} {ks : Ks} {F : Fn} {e : Expr} {f : SE} (h : EvN X ks F e f) : EvP X ks F e f := h.toE.toP
/-- a test -/
structure EvT (X : Cx) (ks : Ks) (F : Fn) (e : Expr) (f : SB) : Prop where
  ex : ∃ t : TT, PT X e t ∧ ∀ σ H (P : Addr → Prop) (ρ : Env) (Q : Bool → Hp → Prop) (b : Bool), Fre P H → ER X.mg P ks H σ ρ → f F ρ = some b → (∀ H', Same H H' → Q b H') → t σ H Q
structure EvW (X : Cx) (ks : Ks) (F : Fn) (e : Expr) (f : SB) : Prop where
  ex : ∃ t : TT, PW X e t ∧ ∀ σ H (P : Addr → Prop) (ρ : Env) (Q : Bool → Hp → Prop) (b : Bool), Fre P H → ER X.mg P ks H σ ρ → f F ρ = some b → (∀ H', Same H H' → Q b H') → t σ H Q
/-- arguments: by kinds (F: shared; else looked at) -/
def RepA (mg : Str → Option Value) (P : Addr → Prop) (H : Hp) : List Kind → List D → List V → Prop
  | _, [], vs => vs = []
  | ks, d :: ds, vs => ∃ v r, vs = v :: r ∧ RepK mg P H (ks.headD .F) d v ∧ RepA mg P H ks.tail ds r
theorem RepA.mono {mg : Str → Option Value} {P P' : Addr → Prop} {H H' : Hp} (s : Same H H') (hp : ∀ a, H a ≠ none → P a → P' a) : ∀ {ks : List Kind} {ds : List D} {vs : List V}, RepA mg P H ks ds vs → RepA mg P' H' ks ds vs
  | _, [], _, h => h
  | ks, d :: ds, vs, h => by
    obtain ⟨v, r, e, h1, h2⟩ := h
    exact ⟨v, r, e, h1.mono s hp, RepA.mono s hp h2⟩
theorem RepA.length {mg : Str → Option Value} {P : Addr → Prop} {H : Hp} : ∀ {ks : List Kind} {ds : List D} {vs : List V}, RepA mg P H ks ds vs → vs.length = ds.length
  | _, [], _, h => by rw [show _ = [] from h]; rfl
  | ks, d :: ds, vs, h => by
    obtain ⟨v, r, e, h1, h2⟩ := h
    rw [e, List.length_cons, List.length_cons, RepA.length h2]
structure EvA (X : Cx) (ks : Ks) (F : Fn) (pk : List Kind) (es : List Expr) (f : SA) : Prop where
  ex : ∃ t : TA, PA X es t ∧ ∀ σ H (P : Addr → Prop) (ρ : Env) (Q : List V → Hp → Prop) (ds : List D), Fre P H → ER X.mg P ks H σ ρ → f F ρ = some ds → (∀ vs H', Same H H' → RepA X.mg P H' pk ds vs → Q vs H') → t σ H Q

section
variable {X : Cx} {ks : Ks} {F : Fn} {pos : Pos}
/-! ### names and constants -/
def cC (d : D) : SE := fun _ _ => some d
def cV (i : Nat) : SE := fun _ ρ => match ρ[i]? with | some (some d) => some d | _ => none
theorem cV_some {i : Nat} {ρ : Env} {d : D} (h : cV i F ρ = some d) : ρ[i]? = some (some d) := by
  unfold cV at h
  split at h
  · rename_i e; rw [← h]; exact e
  · cases h
theorem evE_var {i : Nat} {x : Str} (hN : X.N[i]? = some x) (hv : Vis X.env.scope x) (hk : kd ks i = .F) (hd : (x == ("__debug__" : Str)) = false) (hcd : (x == ("__classdict__" : Str)) = false) : EvE X ks F (.Name x pos) (cV i) := by
  refine ⟨tVar i, pe_var hN hv hd hcd, fun σ H P ρ Q d fr er ev k => ?_⟩
  obtain ⟨v, e, r⟩ := er.2 i d (cV_some ev)
  rw [hk] at r
  exact ⟨v, e, k v H (Same.refl H) r⟩
theorem evP_var {i : Nat} {x : Str} (hN : X.N[i]? = some x) (hv : Vis X.env.scope x) (hd : (x == ("__debug__" : Str)) = false) (hcd : (x == ("__classdict__" : Str)) = false) : EvP X ks F (.Name x pos) (cV i) := by
  refine ⟨tVar i, pe_var hN hv hd hcd, fun σ H P ρ Q d fr er ev k => ?_⟩
  obtain ⟨v, e, r⟩ := er.2 i d (cV_some ev)
  exact ⟨v, e, k v H (Same.refl H) r.toB⟩
theorem evN_int {i j} : EvN X ks F (.Constant (.int i) j pos) (cC (.int i)) :=
  ⟨tC (.int i), pe_int, fun σ H P ρ Q d fr er ev k => by cases ev; exact k _ H (Same.refl H) ⟨rfl, trivial⟩⟩
theorem evN_bl {b j} : EvN X ks F (.Constant (.bool b) j pos) (cC (.bl b)) :=
  ⟨tC (.bl b), pe_bl, fun σ H P ρ Q d fr er ev k => by cases ev; exact k _ H (Same.refl H) ⟨rfl, trivial⟩⟩
theorem evN_non {j} : EvN X ks F (.Constant .none j pos) (cC .non) :=
  ⟨tC .non, pe_non, fun σ H P ρ Q d fr er ev k => by cases ev; exact k _ H (Same.refl H) ⟨rfl, trivial⟩⟩
theorem evN_str {x j} : EvN X ks F (.Constant (.str x) j pos) (cC (.str x)) :=
  ⟨tC (.str x), pe_str, fun σ H P ρ Q d fr er ev k => by cases ev; exact k _ H (Same.refl H) ⟨rfl, trivial⟩⟩
/-- a constant of the module -/
def constV : D → Option V
  | .int i => some (.int i)
  | .str s => some (.str s)
  | .bl b => some (.bl b)
  | _ => none
theorem evN_glob {x : Str} {d : D} {v : V} {u : Value} (hc : constV d = some v) (hg : Gl X x) (hm : X.mg x = some u) (r : RelV v u) (hd : (x == ("__debug__" : Str)) = false) : EvN X ks F (.Name x pos) (cC d) := by
  refine ⟨tC v, pe_glob hg hm r hd, fun σ H P ρ Q d' fr er ev k => ?_⟩
  cases ev
  cases d <;> simp only [constV] at hc <;> first | cases hc | skip
  all_goals exact k _ H (Same.refl H) ⟨rfl, trivial⟩
/-- a def of the module, handed on -/
theorem evP_fn {x : Str} {a : Addr} (hg : Gl X x) (hm : X.mg x = some (.ref a)) (hd : (x == ("__debug__" : Str)) = false) : EvP X ks F (.Name x pos) (cC (.fn x)) := by
  refine ⟨tC (.ref a), pe_glob hg hm rfl hd, fun σ H P ρ Q d' fr er ev k => ?_⟩
  cases ev
  exact k _ H (Same.refl H) ⟨a, rfl, hm⟩

/-! ### argument lists -/
def cNil : SA := fun _ _ => some []
def cCons (f : SE) (g : SA) : SA := fun F ρ => (f F ρ).bind fun d => (g F ρ).bind fun ds => some (d :: ds)
theorem starEach_cons {e : Expr} {es : List Expr} {env : PySem.Env} (h : ∀ x p, e ≠ .Starred x p) : starEach (e :: es) env = (false, eval e env) :: starEach es env := by
  cases e <;> first | rfl | exact absurd rfl (h _ _)
def noStar : Expr → Bool
  | .Starred _ _ => false
  | _ => true
theorem noStar_ne {e : Expr} (h : noStar e = true) : ∀ x p, e ≠ .Starred x p := fun x p q => by rw [q] at h; cases h
theorem evA_nil {pk : List Kind} : EvA X ks F pk [] cNil :=
  ⟨tNil, pa_nil, fun σ H P ρ Q ds fr er ev k => by cases ev; exact k [] H (Same.refl H) rfl⟩
theorem evA_consE {pk : List Kind} {e : Expr} {es : List Expr} {f : SE} {g : SA} (hk : pk.headD .F = .F) (hs : noStar e = true) (h : EvE X ks F e f) (hr : EvA X ks F pk.tail es g) : EvA X ks F pk (e :: es) (cCons f g) := by
  obtain ⟨t, p, q⟩ := h.ex
  obtain ⟨t', p', q'⟩ := hr.ex
  refine ⟨tCons t t', pa_cons p p' (starEach_cons (noStar_ne hs)), fun σ H P ρ Q ds fr er ev k => ?_⟩
  obtain ⟨d, e1, ev⟩ := Option.bind_eq_some_iff.mp ev
  obtain ⟨ds', e2, ev⟩ := Option.bind_eq_some_iff.mp ev
  cases ev
  refine q σ H P ρ _ d fr er e1 fun v H1 s1 r1 => ?_
  refine q' σ H1 P ρ _ ds' (fr.same s1) (er.same s1) e2 fun vs H2 s2 r2 => ?_
  exact k _ H2 (s1.trans s2) ⟨v, vs, rfl, by rw [hk]; exact r1.same s2, r2⟩
theorem evA_consP {pk : List Kind} {e : Expr} {es : List Expr} {f : SE} {g : SA} (hk : pk.headD .F ≠ .F) (hs : noStar e = true) (h : EvP X ks F e f) (hr : EvA X ks F pk.tail es g) : EvA X ks F pk (e :: es) (cCons f g) := by
  obtain ⟨t, p, q⟩ := h.ex
  obtain ⟨t', p', q'⟩ := hr.ex
  refine ⟨tCons t t', pa_cons p p' (starEach_cons (noStar_ne hs)), fun σ H P ρ Q ds fr er ev k => ?_⟩
  obtain ⟨d, e1, ev⟩ := Option.bind_eq_some_iff.mp ev
  obtain ⟨ds', e2, ev⟩ := Option.bind_eq_some_iff.mp ev
  cases ev
  refine q σ H P ρ _ d fr er e1 fun v H1 s1 r1 => ?_
  refine q' σ H1 P ρ _ ds' (fr.same s1) (er.same s1) e2 fun vs H2 s2 r2 => ?_
  refine k _ H2 (s1.trans s2) ⟨v, vs, rfl, ?_, r2⟩
  have r3 := r1.same s2
  generalize pk.headD .F = z at hk ⊢
  cases z <;> first | exact absurd rfl hk | exact r3

theorem RepA.allF {mg : Str → Option Value} {P : Addr → Prop} {H : Hp} : ∀ {ds : List D} {vs : List V}, RepA mg P H [] ds vs → RepL P H ds vs
  | [], _, h => by unfold RepL; exact h
  | d :: ds, vs, h => by
    obtain ⟨v, r, e, h1, h2⟩ := h
    unfold RepL
    exact ⟨v, r, e, h1, RepA.allF h2⟩
theorem same_new {H : Hp} {p : Addr} {o : HO} (h : H p = none) : Same H (upd H p o) := fun b x e => by
  rw [L2.upd_ne (ne_of_none e h)]; exact e
theorem RepL.len {P : Addr → Prop} {H : Hp} : ∀ {ds : List D} {vs : List V}, RepL P H ds vs → vs.length = ds.length
  | [], _, h => by unfold RepL at h; rw [h]; rfl
  | d :: ds, vs, h => by
    unfold RepL at h
    obtain ⟨v, r, e, h1, h2⟩ := h
    rw [e, List.length_cons, List.length_cons, RepL.len h2]

/-- as long as the model has room for -/
def fits (n : Nat) : Bool := decide (n ≤ sizeLine)
def mkTup (ds : List D) : Option D := if fits ds.length then some (.tup ds) else none
def mkLst (ds : List D) : Option D := if fits ds.length then some (.lst ds) else none
theorem mkTup_some {ds : List D} {d : D} (h : mkTup ds = some d) : d = .tup ds ∧ ds.length ≤ sizeLine := by
  unfold mkTup at h; split at h
  · rename_i e; exact ⟨(Option.some.inj h).symm, of_decide_eq_true e⟩
  · cases h
theorem mkLst_some {ds : List D} {d : D} (h : mkLst ds = some d) : d = .lst ds ∧ ds.length ≤ sizeLine := by
  unfold mkLst at h; split at h
  · rename_i e; exact ⟨(Option.some.inj h).symm, of_decide_eq_true e⟩
  · cases h
def cTup (g : SA) : SE := fun F ρ => (g F ρ).bind mkTup
def cLst (g : SA) : SE := fun F ρ => (g F ρ).bind mkLst
theorem evN_tup {es : List Expr} {x1} {g : SA} (h : EvA X ks F [] es g) : EvN X ks F (.Tuple es x1 pos) (cTup g) := by
  obtain ⟨t, p, q⟩ := h.ex
  refine ⟨tTup t, pe_tup p, fun σ H P ρ Q d fr er ev k => ?_⟩
  obtain ⟨ds, e1, ev⟩ := Option.bind_eq_some_iff.mp ev
  obtain ⟨rfl, hl⟩ := mkTup_some ev
  refine q σ H P ρ _ ds fr er e1 fun vs H1 s1 r1 => ?_
  have r1 := r1.allF
  refine ⟨by rw [r1.len]; exact hl, fun p hp => ?_⟩
  refine k _ _ (s1.trans (same_new hp)) ⟨?_, trivial⟩
  unfold Rep
  exact ⟨p, vs, rfl, upd_same, r1.same (same_new hp)⟩
theorem evN_lst {es : List Expr} {g : SA} (h : EvA X ks F [] es g) : EvN X ks F (.List es pos) (cLst g) := by
  obtain ⟨t, p, q⟩ := h.ex
  refine ⟨tLst t, pe_lst p, fun σ H P ρ Q d fr er ev k => ?_⟩
  obtain ⟨ds, e1, ev⟩ := Option.bind_eq_some_iff.mp ev
  obtain ⟨rfl, hl⟩ := mkLst_some ev
  refine q σ H P ρ _ ds fr er e1 fun vs H1 s1 r1 => ?_
  have r1 := r1.allF
  refine ⟨by rw [r1.len]; exact hl, fun p hp => ?_⟩
  refine k _ _ (s1.trans (same_new hp)) ⟨?_, ?_⟩
  · unfold Rep
    exact ⟨p, vs, rfl, (fr.same s1) p hp, upd_same, r1.same (same_new hp)⟩
  · simp only [TopNew]
    intro a e; cases e; exact s1.free hp

/-! ### operators by values -/
/-- r serves op: where op of the trees is told, r leads there -/
def R2Ok (mg : Str → Option Value) (r : R2) (op : D → D → Option D) : Prop :=
  ∀ (P : Addr → Prop) (H : Hp) (x y d : D) (v w : V) (Q : VK), Fre P H → RepB mg P H x v → RepB mg P H y w → op x y = some d →
    (∀ z H', Same H H' → Rep P H' d z → TopNew H d z → Q z H') → r v w H Q
def cB (op : D → D → Option D) (f g : SE) : SE := fun F ρ => (f F ρ).bind fun x => (g F ρ).bind fun y => op x y
def R1Ok (mg : Str → Option Value) (r : V → Hp → VK → Prop) (op : D → Option D) : Prop :=
  ∀ (P : Addr → Prop) (H : Hp) (x d : D) (v : V) (Q : VK), Fre P H → RepB mg P H x v → op x = some d →
    (∀ z H', Same H H' → Rep P H' d z → TopNew H d z → Q z H') → r v H Q
def cU (op : D → Option D) (f : SE) : SE := fun F ρ => (f F ρ).bind op
theorem tOp_ok {r : R2} {op : D → D → Option D} {a b : Expr} {f g : SE} {ta tb : TE} (hr : R2Ok X.mg r op)
    (qa : ∀ σ H, Cn X.mg H ks F f σ (fun P d v H' => RepB X.mg P H' d v) ta) (qb : ∀ σ H, Cn X.mg H ks F g σ (fun P d v H' => RepB X.mg P H' d v) tb) :
    ∀ σ H, Cn X.mg H ks F (cB op f g) σ (fun P d v H' => Rep P H' d v ∧ TopNew H d v) (tOp r ta tb) := by
  intro σ H P ρ Q d fr er ev k
  obtain ⟨x, e1, ev⟩ := Option.bind_eq_some_iff.mp ev
  obtain ⟨y, e2, ev⟩ := Option.bind_eq_some_iff.mp ev
  refine qa σ H P ρ _ x fr er e1 fun v H1 s1 r1 => ?_
  refine qb σ H1 P ρ _ y (fr.same s1) (er.same s1) e2 fun w H2 s2 r2 => ?_
  exact hr P H2 x y d v w Q ((fr.same s1).same s2) (r1.same s2) r2 ev fun z H' s n tn => k z H' ((s1.trans s2).trans s) ⟨n, TopNew.back (s1.trans s2) tn⟩
theorem evN_bin {op : Operator} {r : R2} {o : D → D → Option D} {a b : Expr} {f g : SE} (ho : OpR X (binaryOp op) r) (hr : R2Ok X.mg r o) (ha : EvP X ks F a f) (hb : EvP X ks F b g) : EvN X ks F (.BinOp a op b pos) (cB o f g) := by
  obtain ⟨ta, pa, qa⟩ := ha.ex
  obtain ⟨tb, pb, qb⟩ := hb.ex
  exact ⟨tOp r ta tb, pe_op ho pa pb, tOp_ok (a := a) (b := b) hr qa qb⟩
theorem evN_un {op : UnaryOp} {r : V → Hp → VK → Prop} {o : D → Option D} {a : Expr} {f : SE} (ho : UnR X (unaryOp op) r) (hr : R1Ok X.mg r o) (ha : EvP X ks F a f) : EvN X ks F (.UnaryOp op a pos) (cU o f) := by
  obtain ⟨ta, pa, qa⟩ := ha.ex
  refine ⟨tUn r ta, pe_un ho pa, fun σ H P ρ Q d fr er ev k => ?_⟩
  obtain ⟨x, e1, ev⟩ := Option.bind_eq_some_iff.mp ev
  refine qa σ H P ρ _ x fr er e1 fun v H1 s1 r1 => ?_
  exact hr P H1 x d v Q (fr.same s1) r1 ev fun z H' s n tn => k z H' (s1.trans s) ⟨n, TopNew.back s1 tn⟩
theorem evN_cmp {op : CmpOp} {r : R2} {o : D → D → Option D} {a b : Expr} {f g : SE} (ho : OpR X (compareOp op) r) (hr : R2Ok X.mg r o) (hm : behindInMarks op b = false) (ha : EvP X ks F a f) (hb : EvP X ks F b g) : EvN X ks F (.Compare a [op] [b] pos) (cB o f g) := by
  obtain ⟨ta, pa, qa⟩ := ha.ex
  obtain ⟨tb, pb, qb⟩ := hb.ex
  exact ⟨tOp r ta tb, pe_cmpR ho pa pb hm, tOp_ok (a := a) (b := b) hr qa qb⟩
def boolD : D → Option Bool
  | .bl b => some b
  | _ => none
def cBT (op : D → D → Option D) (f g : SE) : SB := fun F ρ => (cB op f g F ρ).bind boolD
theorem boolD_some {d : D} {b : Bool} (h : boolD d = some b) : d = .bl b := by
  cases d <;> simp [boolD] at h
  rw [h]
theorem evT_cmp {op : CmpOp} {r : R2} {o : D → D → Option D} {a b : Expr} {f g : SE} (ho : OpR X (compareOp op) r) (hr : R2Ok X.mg r o) (hm : behindInMarks op b = false) (ha : EvP X ks F a f) (hb : EvP X ks F b g) : EvT X ks F (.Compare a [op] [b] pos) (cBT o f g) := by
  obtain ⟨ta, pa, qa⟩ := ha.ex
  obtain ⟨tb, pb, qb⟩ := hb.ex
  refine ⟨tTest (tOp r ta tb), pt_cmpR ho pa pb hm, fun σ H P ρ Q c fr er ev k => ?_⟩
  obtain ⟨d, e1, ev⟩ := Option.bind_eq_some_iff.mp ev
  refine tOp_ok (a := a) (b := b) hr qa qb σ H P ρ _ d fr er e1 fun v H1 s1 r1 => ?_
  have := boolD_some ev
  subst this
  exact ⟨c, by have := r1.1; simpa only [Rep] using this, k H1 s1⟩
/-- a < b < c -/
def cCh (o o' : D → D → Option D) (f g h : SE) : SE := fun F ρ => (f F ρ).bind fun x => (g F ρ).bind fun y => (o x y).bind fun z => (boolD z).bind fun c => if c then (h F ρ).bind fun w => o' y w else some (.bl false)
theorem evN_chain {op op' : CmpOp} {r r' : R2} {o o' : D → D → Option D} {a b c : Expr} {f g h : SE} (ho : OpR X (compareOp op) r) (hr : R2Ok X.mg r o) (ho' : OpR X (compareOp op') r') (hr' : R2Ok X.mg r' o')
    (ha : EvP X ks F a f) (hb : EvP X ks F b g) (hc : EvP X ks F c h) (hm : lastMarks [op, op'] [b, c] = false) : EvN X ks F (.Compare a [op, op'] [b, c] pos) (cCh o o' f g h) := by
  obtain ⟨ta, pa, qa⟩ := ha.ex
  obtain ⟨tb, pb, qb⟩ := hb.ex
  obtain ⟨tc, pc, qc⟩ := hc.ex
  refine ⟨tChain r r' ta tb tc, pe_chain ho ho' pa pb pc hm, fun σ H P ρ Q d fr er ev k => ?_⟩
  obtain ⟨x, e1, ev⟩ := Option.bind_eq_some_iff.mp ev
  obtain ⟨y, e2, ev⟩ := Option.bind_eq_some_iff.mp ev
  obtain ⟨z, e3, ev⟩ := Option.bind_eq_some_iff.mp ev
  obtain ⟨cc, e4, ev6⟩ := Option.bind_eq_some_iff.mp ev
  clear ev
  have := boolD_some e4
  subst this
  refine qa σ H P ρ _ x fr er e1 fun v H1 s1 r1 => ?_
  refine qb σ H1 P ρ _ y (fr.same s1) (er.same s1) e2 fun w H2 s2 r2 => ?_
  have f2 := (fr.same s1).same s2
  have er2 := (er.same s1).same s2
  refine hr P H2 x y _ v w _ f2 (r1.same s2) r2 e3 fun z H3 s3 n tn => ?_
  have n : z = .bl cc := by simpa only [Rep] using n
  refine ⟨cc, n, ?_⟩
  cases cc with
  | false =>
    rw [if_neg Bool.false_ne_true] at ev6 ⊢
    cases ev6
    exact k _ H3 ((s1.trans s2).trans s3) ⟨by simp only [Rep], trivial⟩
  | true =>
    rw [if_pos rfl] at ev6 ⊢
    obtain ⟨u, e5, ev7⟩ := Option.bind_eq_some_iff.mp ev6
    refine qc σ H3 P ρ _ u (f2.same s3) (er2.same s3) e5 fun w' H4 s4 r4 => ?_
    exact hr' P H4 y u d w w' Q ((f2.same s3).same s4) ((r2.same s3).same s4) r4 ev7 fun z H' s n tn => k z H' ((((s1.trans s2).trans s3).trans s4).trans s) ⟨n, TopNew.back (((s1.trans s2).trans s3).trans s4) tn⟩
end
end RE
/-! RE3: truth, tests, and, or, not, if; indexes and slices; built-ins by values. -/
namespace RE
open PySem PySem.Spec PyProof.Rows L2

/-- a value's truth -/
def truD : D → Option Bool
  | .non => some false
  | .bl b => some b
  | .int i => some (i != 0)
  | .str s => if fits s.length then some ((s.length : Int) != 0) else none
  | .lst xs => some (!xs.isEmpty)
  | .tup xs => some (!xs.isEmpty)
  | _ => none
theorem RepL.isEmpty {P : Addr → Prop} {H : Hp} {ds : List D} {vs : List V} (h : RepL P H ds vs) : vs.isEmpty = ds.isEmpty := by
  have := h.len
  cases ds <;> cases vs <;> simp_all
theorem tru_of {mg : Str → Option Value} {K : PySem.W.Frag} {P : Addr → Prop} {H : Hp} {d : D} {v : V} {b : Bool} (r : RepB mg P H d v) (h : truD d = some b) : TruV K v H b := by
  cases d <;> simp only [truD] at h <;> simp only [RepB, Rep] at r
  · cases h; subst r; rfl
  · cases h; subst r; rfl
  · cases h; subst r; rfl
  · split at h
    · rename_i e
      cases h; subst r
      exact ⟨of_decide_eq_true e, rfl⟩
    · cases h
  · cases h
    obtain ⟨a, vs, e, h1, h2⟩ := r
    subst e
    exact .inr (.inl ⟨vs, .inl (.inl h1), by rw [h2.isEmpty]⟩)
  · cases h
    obtain ⟨a, vs, e, h1, h2⟩ := r
    subst e
    exact .inl ⟨vs, .inl (.inl h1), by rw [h2.isEmpty]⟩
  · cases h
  · cases h
  · cases h

/-- its test is its value's truth -/
def plainTest : Expr → Bool
  | .UnaryOp .Not _ _ => false
  | .BoolOp _ _ _ => false
  | .IfExp _ _ _ _ => false
  | .Compare _ _ _ _ => false
  | _ => true
theorem isTrue_of {e : Expr} (h : plainTest e = true) (env : PySem.Env) : ∀ whole, isTrue e env whole = (do let v ← whole; standAt e.pos; holding [v] (truthy v)) := by
  cases e with
  | UnaryOp op x p => cases op <;> first | (intro w; rfl) | exact Bool.noConfusion h
  | BoolOp => cases h
  | IfExp => cases h
  | Compare => cases h
  | _ => intro w; rfl

section
variable {X : Cx} {ks : Ks} {F : Fn} {pos : Pos}
def cTr (f : SE) : SB := fun F ρ => (f F ρ).bind truD
theorem evT_truth {e : Expr} {f : SE} (hp : plainTest e = true) (h : EvP X ks F e f) : EvT X ks F e (cTr f) := by
  obtain ⟨t, p, q⟩ := h.ex
  refine ⟨_, pt_truth p (isTrue_of hp X.env), fun σ H P ρ Q b fr er ev k => ?_⟩
  obtain ⟨d, e1, ev⟩ := Option.bind_eq_some_iff.mp ev
  exact q σ H P ρ _ d fr er e1 fun v H1 s1 r1 => ⟨b, tru_of r1 ev, k H1 s1⟩
def cAndT (f g : SB) : SB := fun F ρ => (f F ρ).bind fun b => if b then g F ρ else some false
def cOrT (f g : SB) : SB := fun F ρ => (f F ρ).bind fun b => if b then some true else g F ρ
def cNotT (f : SB) : SB := fun F ρ => (f F ρ).map (!·)
theorem evW_and1 {a : Expr} {f : SB} (h : EvT X ks F a f) : EvW X ks F (.BoolOp .And [a] pos) f := let ⟨t, p, q⟩ := h.ex; ⟨t, pw_and1 p, q⟩
theorem evW_or1 {a : Expr} {f : SB} (h : EvT X ks F a f) : EvW X ks F (.BoolOp .Or [a] pos) f := let ⟨t, p, q⟩ := h.ex; ⟨t, pw_or1 p, q⟩
theorem evW_and {a b : Expr} {rest : List Expr} {f g : SB} (h : EvT X ks F a f) (h' : EvW X ks F (.BoolOp .And (b :: rest) pos) g) : EvW X ks F (.BoolOp .And (a :: b :: rest) pos) (cAndT f g) := by
  obtain ⟨t, p, q⟩ := h.ex
  obtain ⟨t', p', q'⟩ := h'.ex
  refine ⟨tAnd t t', pw_and p p', fun σ H P ρ Q c fr er ev k => ?_⟩
  obtain ⟨b, e1, ev⟩ := Option.bind_eq_some_iff.mp ev
  refine q σ H P ρ _ b fr er e1 fun H1 s1 => ?_
  cases b with
  | true => rw [if_pos rfl] at ev ⊢; exact q' σ H1 P ρ _ c (fr.same s1) (er.same s1) ev fun H2 s2 => k H2 (s1.trans s2)
  | false => rw [if_neg Bool.false_ne_true] at ev ⊢; cases ev; exact k H1 s1
theorem evW_or {a b : Expr} {rest : List Expr} {f g : SB} (h : EvT X ks F a f) (h' : EvW X ks F (.BoolOp .Or (b :: rest) pos) g) : EvW X ks F (.BoolOp .Or (a :: b :: rest) pos) (cOrT f g) := by
  obtain ⟨t, p, q⟩ := h.ex
  obtain ⟨t', p', q'⟩ := h'.ex
  refine ⟨tOr t t', pw_or p p', fun σ H P ρ Q c fr er ev k => ?_⟩
  obtain ⟨b, e1, ev⟩ := Option.bind_eq_some_iff.mp ev
  refine q σ H P ρ _ b fr er e1 fun H1 s1 => ?_
  cases b with
  | false => rw [if_neg Bool.false_ne_true] at ev ⊢; exact q' σ H1 P ρ _ c (fr.same s1) (er.same s1) ev fun H2 s2 => k H2 (s1.trans s2)
  | true => rw [if_pos rfl] at ev ⊢; cases ev; exact k H1 s1
theorem EvW.toT {e : Expr} {f : SB} (h : EvW X ks F e f) : EvT X ks F e f := let ⟨t, p, q⟩ := h.ex; ⟨t, p.pt, q⟩
theorem evT_not {a : Expr} {f : SB} (h : EvT X ks F a f) : EvT X ks F (.UnaryOp .Not a pos) (cNotT f) := by
  obtain ⟨t, p, q⟩ := h.ex
  refine ⟨tNot t, pt_not p, fun σ H P ρ Q c fr er ev k => ?_⟩
  obtain ⟨b, e1, ev⟩ := Option.map_eq_some_iff.mp ev
  subst ev
  exact q σ H P ρ _ b fr er e1 fun H1 s1 => k H1 s1
theorem evT_chain {op op' : CmpOp} {r r' : R2} {o o' : D → D → Option D} {a b c : Expr} {f g h : SE} (ho : OpR X (compareOp op) r) (hr : R2Ok X.mg r o) (ho' : OpR X (compareOp op') r') (hr' : R2Ok X.mg r' o')
    (ha : EvP X ks F a f) (hb : EvP X ks F b g) (hc : EvP X ks F c h) (hm : lastMarks [op, op'] [b, c] = false) : EvT X ks F (.Compare a [op, op'] [b, c] pos) (fun F ρ => (cCh o o' f g h F ρ).bind boolD) := by
  obtain ⟨ta, pa, qa⟩ := ha.ex
  obtain ⟨tb, pb, qb⟩ := hb.ex
  obtain ⟨tc, pc, qc⟩ := hc.ex
  refine ⟨tTest (tChain r r' ta tb tc), pt_chain ho ho' pa pb pc hm, fun σ H P ρ Q cc fr er ev k => ?_⟩
  obtain ⟨d, e0, ev'⟩ := Option.bind_eq_some_iff.mp ev
  obtain ⟨x, e1, ev1⟩ := Option.bind_eq_some_iff.mp e0
  obtain ⟨y, e2, ev2⟩ := Option.bind_eq_some_iff.mp ev1
  obtain ⟨z, e3, ev3⟩ := Option.bind_eq_some_iff.mp ev2
  obtain ⟨c1, e4, ev4⟩ := Option.bind_eq_some_iff.mp ev3
  have hz := boolD_some e4
  subst hz
  have hd := boolD_some ev'
  subst hd
  clear ev ev' e0 ev1 ev2 ev3
  refine qa σ H P ρ _ x fr er e1 fun v H1 s1 r1 => ?_
  refine qb σ H1 P ρ _ y (fr.same s1) (er.same s1) e2 fun w H2 s2 r2 => ?_
  have f2 := (fr.same s1).same s2
  have er2 := (er.same s1).same s2
  refine hr P H2 x y _ v w _ f2 (r1.same s2) r2 e3 fun z H3 s3 n tn => ?_
  have n : z = .bl c1 := by simpa only [Rep] using n
  refine ⟨c1, n, ?_⟩
  cases c1 with
  | false =>
    rw [if_neg Bool.false_ne_true] at ev4 ⊢
    cases ev4
    exact ⟨false, rfl, k H3 ((s1.trans s2).trans s3)⟩
  | true =>
    rw [if_pos rfl] at ev4 ⊢
    obtain ⟨u, e5, ev7⟩ := Option.bind_eq_some_iff.mp ev4
    refine qc σ H3 P ρ _ u (f2.same s3) (er2.same s3) e5 fun w' H4 s4 r4 => ?_
    refine hr' P H4 y u _ w w' _ ((f2.same s3).same s4) ((r2.same s3).same s4) r4 ev7 fun z H' s n tn => ⟨cc, by simpa only [Rep] using n, k H' ((((s1.trans s2).trans s3).trans s4).trans s)⟩

/-! ### and, or, not, if as values -/
def cOr (f g : SE) : SE := fun F ρ => (f F ρ).bind fun d => (truD d).bind fun b => if b then some d else g F ρ
def cAnd (f g : SE) : SE := fun F ρ => (f F ρ).bind fun d => (truD d).bind fun b => if b then g F ρ else some d
def cNot (f : SE) : SE := fun F ρ => (f F ρ).bind fun d => (truD d).map fun b => .bl (!b)
theorem evE_one {op} {a : Expr} {f : SE} (h : EvE X ks F a f) : EvE X ks F (.BoolOp op [a] pos) f := let ⟨t, p, q⟩ := h.ex; ⟨t, pe_one p, q⟩
theorem evE_or {a b : Expr} {rest : List Expr} {f g : SE} (h : EvE X ks F a f) (h' : EvE X ks F (.BoolOp .Or (b :: rest) pos) g) : EvE X ks F (.BoolOp .Or (a :: b :: rest) pos) (cOr f g) := by
  obtain ⟨t, p, q⟩ := h.ex
  obtain ⟨t', p', q'⟩ := h'.ex
  refine ⟨tOrT X.K t t', pe_orT p p', fun σ H P ρ Q d fr er ev k => ?_⟩
  obtain ⟨x, e1, ev1⟩ := Option.bind_eq_some_iff.mp ev
  obtain ⟨b, e2, ev2⟩ := Option.bind_eq_some_iff.mp ev1
  refine q σ H P ρ _ x fr er e1 fun v H1 s1 r1 => ⟨b, tru_of (mg := X.mg) (Rep.toB r1) e2, ?_⟩
  cases b with
  | true => rw [if_pos rfl] at ev2 ⊢; cases ev2; exact k v H1 s1 r1
  | false => rw [if_neg Bool.false_ne_true] at ev2 ⊢; exact q' σ H1 P ρ _ d (fr.same s1) (er.same s1) ev2 fun v H2 s2 r2 => k v H2 (s1.trans s2) r2
theorem evE_and {a b : Expr} {rest : List Expr} {f g : SE} (h : EvE X ks F a f) (h' : EvE X ks F (.BoolOp .And (b :: rest) pos) g) : EvE X ks F (.BoolOp .And (a :: b :: rest) pos) (cAnd f g) := by
  obtain ⟨t, p, q⟩ := h.ex
  obtain ⟨t', p', q'⟩ := h'.ex
  refine ⟨tAndT X.K t t', pe_andT p p', fun σ H P ρ Q d fr er ev k => ?_⟩
  obtain ⟨x, e1, ev1⟩ := Option.bind_eq_some_iff.mp ev
  obtain ⟨b, e2, ev2⟩ := Option.bind_eq_some_iff.mp ev1
  refine q σ H P ρ _ x fr er e1 fun v H1 s1 r1 => ⟨b, tru_of (mg := X.mg) (Rep.toB r1) e2, ?_⟩
  cases b with
  | false => rw [if_neg Bool.false_ne_true] at ev2 ⊢; cases ev2; exact k v H1 s1 r1
  | true => rw [if_pos rfl] at ev2 ⊢; exact q' σ H1 P ρ _ d (fr.same s1) (er.same s1) ev2 fun v H2 s2 r2 => k v H2 (s1.trans s2) r2
theorem evN_not {a : Expr} {f : SE} (h : EvP X ks F a f) : EvN X ks F (.UnaryOp .Not a pos) (cNot f) := by
  obtain ⟨t, p, q⟩ := h.ex
  refine ⟨tNotT X.K t, pe_notT p, fun σ H P ρ Q d fr er ev k => ?_⟩
  obtain ⟨x, e1, ev1⟩ := Option.bind_eq_some_iff.mp ev
  obtain ⟨b, e2, ev2⟩ := Option.map_eq_some_iff.mp ev1
  subst ev2
  exact q σ H P ρ _ x fr er e1 fun v H1 s1 r1 => ⟨b, tru_of r1 e2, k _ H1 s1 ⟨rfl, trivial⟩⟩
def cIf (c : SB) (f g : SE) : SE := fun F ρ => (c F ρ).bind fun b => if b then f F ρ else g F ρ
theorem evE_if {c a b : Expr} {h : SB} {f g : SE} (hc : EvT X ks F c h) (ha : EvE X ks F a f) (hb : EvE X ks F b g) : EvE X ks F (.IfExp c a b pos) (cIf h f g) := by
  obtain ⟨t, p, q⟩ := hc.ex
  obtain ⟨ta, pa, qa⟩ := ha.ex
  obtain ⟨tb, pb, qb⟩ := hb.ex
  refine ⟨tIf t ta tb, pe_ifExp p pa pb, fun σ H P ρ Q d fr er ev k => ?_⟩
  obtain ⟨b, e1, ev1⟩ := Option.bind_eq_some_iff.mp ev
  refine q σ H P ρ _ b fr er e1 fun H1 s1 => ?_
  cases b with
  | true => rw [if_pos rfl] at ev1 ⊢; exact qa σ H1 P ρ _ d (fr.same s1) (er.same s1) ev1 fun v H2 s2 r2 => k v H2 (s1.trans s2) r2
  | false => rw [if_neg Bool.false_ne_true] at ev1 ⊢; exact qb σ H1 P ρ _ d (fr.same s1) (er.same s1) ev1 fun v H2 s2 r2 => k v H2 (s1.trans s2) r2
theorem evP_if {c a b : Expr} {h : SB} {f g : SE} (hc : EvT X ks F c h) (ha : EvP X ks F a f) (hb : EvP X ks F b g) : EvP X ks F (.IfExp c a b pos) (cIf h f g) := by
  obtain ⟨t, p, q⟩ := hc.ex
  obtain ⟨ta, pa, qa⟩ := ha.ex
  obtain ⟨tb, pb, qb⟩ := hb.ex
  refine ⟨tIf t ta tb, pe_ifExp p pa pb, fun σ H P ρ Q d fr er ev k => ?_⟩
  obtain ⟨b, e1, ev1⟩ := Option.bind_eq_some_iff.mp ev
  refine q σ H P ρ _ b fr er e1 fun H1 s1 => ?_
  cases b with
  | true => rw [if_pos rfl] at ev1 ⊢; exact qa σ H1 P ρ _ d (fr.same s1) (er.same s1) ev1 fun v H2 s2 r2 => k v H2 (s1.trans s2) r2
  | false => rw [if_neg Bool.false_ne_true] at ev1 ⊢; exact qb σ H1 P ρ _ d (fr.same s1) (er.same s1) ev1 fun v H2 s2 r2 => k v H2 (s1.trans s2) r2
theorem evN_if {c a b : Expr} {h : SB} {f g : SE} (hc : EvT X ks F c h) (ha : EvN X ks F a f) (hb : EvN X ks F b g) : EvN X ks F (.IfExp c a b pos) (cIf h f g) := by
  obtain ⟨t, p, q⟩ := hc.ex
  obtain ⟨ta, pa, qa⟩ := ha.ex
  obtain ⟨tb, pb, qb⟩ := hb.ex
  refine ⟨tIf t ta tb, pe_ifExp p pa pb, fun σ H P ρ Q d fr er ev k => ?_⟩
  obtain ⟨b, e1, ev1⟩ := Option.bind_eq_some_iff.mp ev
  refine q σ H P ρ _ b fr er e1 fun H1 s1 => ?_
  cases b with
  | true => rw [if_pos rfl] at ev1 ⊢; exact qa σ H1 P ρ _ d (fr.same s1) (er.same s1) ev1 fun v H2 s2 r2 => k v H2 (s1.trans s2) ⟨r2.1, TopNew.back s1 r2.2⟩
  | false => rw [if_neg Bool.false_ne_true] at ev1 ⊢; exact qb σ H1 P ρ _ d (fr.same s1) (er.same s1) ev1 fun v H2 s2 r2 => k v H2 (s1.trans s2) ⟨r2.1, TopNew.back s1 r2.2⟩

/-! ### built-ins by values -/
def RcOk (mg : Str → Option Value) (r : List V → Hp → VK → Prop) (op : List D → Option D) : Prop :=
  ∀ (P : Addr → Prop) (H : Hp) (xs : List D) (d : D) (vs : List V) (Q : VK), Fre P H → RepA mg P H [.B, .B, .B, .B] xs vs → op xs = some d →
    (∀ z H', Same H H' → Rep P H' d z → TopNew H d z → Q z H') → r vs H Q
def cCall (op : List D → Option D) (g : SA) : SE := fun F ρ => (g F ρ).bind op
theorem notDbg {x : Str} (h : (x == ("__debug__" : Str)) = false) : (x == ("__debug__" : Str)) = false := h
theorem backTo_any {pos : Pos} : ∀ {es : List Expr} {env : PySem.Env}, es.all noStar = true → (backTo pos (starEach es env)).any (·.1) = false := by
  intro es env h
  have : ∀ (es : List Expr), es.all noStar = true → ∀ p ∈ starEach es env, p.1 = false := by
    intro es
    induction es with
    | nil => intro _ p hp; cases hp
    | cons e es ih =>
      intro h p hp
      rw [List.all_cons, Bool.and_eq_true] at h
      rw [starEach_cons (noStar_ne h.1)] at hp
      rcases List.mem_cons.mp hp with rfl | hp
      · rfl
      · exact ih h.2 p hp
  have h2 := this es h
  generalize starEach es env = l at h2 ⊢
  cases l with
  | nil => rfl
  | cons a l =>
    rw [List.any_eq_false]
    intro p hp
    simp only [Bool.not_eq_true]
    unfold backTo at hp
    obtain ⟨q, hq, e⟩ := List.mem_map.mp hp
    rw [← e]
    exact h2 q hq
theorem evN_callB {x : Str} {p : Pos} {id : String} {r : List V → Hp → VK → Prop} {op : List D → Option D} {e : Expr} {es : List Expr} {g : SA} (hc : CallR X (.builtin id) r) (hr : RcOk X.mg r op) (hg : Gl X x) (hm : X.mg x = none) (hv : bootBuiltins x = some (.builtin id))
    (hn : x ≠ "__name__") (hdb : (x == ("__debug__" : Str)) = false) (hs : (e :: es).all noStar = true) (ha : EvA X ks F [.B, .B, .B, .B] (e :: es) g) : EvN X ks F (.Call (.Name x p) (e :: es) [] pos) (cCall op g) := by
  obtain ⟨t, pt, q⟩ := ha.ex
  have hs' := hs
  rw [List.all_cons, Bool.and_eq_true] at hs'
  refine ⟨tCB r t, pe_callB hc hg hm hv pt hn hdb (starEach_cons (noStar_ne hs'.1)) (backTo_any hs'.2), fun σ H P ρ Q d fr er ev k => ?_⟩
  obtain ⟨ds, e1, ev1⟩ := Option.bind_eq_some_iff.mp ev
  refine q σ H P ρ _ ds fr er e1 fun vs H1 s1 r1 => ?_
  exact hr P H1 ds d vs Q (fr.same s1) r1 ev1 fun z H' s n tn => k z H' (s1.trans s) ⟨n, TopNew.back s1 tn⟩
theorem evN_callT {x : Str} {p : Pos} {T : String} {r : List V → Hp → VK → Prop} {op : List D → Option D} {e : Expr} {es : List Expr} {g : SA} (hc : CallR X (.type T) r) (hr : RcOk X.mg r op) (hg : Gl X x) (hm : X.mg x = none) (hv : bootBuiltins x = some (.type T))
    (hn : x ≠ "__name__") (hdb : (x == ("__debug__" : Str)) = false) (hs : (e :: es).all noStar = true) (ha : EvA X ks F [.B, .B, .B, .B] (e :: es) g) : EvN X ks F (.Call (.Name x p) (e :: es) [] pos) (cCall op g) := by
  obtain ⟨t, pt, q⟩ := ha.ex
  have hs' := hs
  rw [List.all_cons, Bool.and_eq_true] at hs'
  refine ⟨tCB r t, pe_callTy hc hg hm hv pt hn hdb (starEach_cons (noStar_ne hs'.1)) (backTo_any hs'.2), fun σ H P ρ Q d fr er ev k => ?_⟩
  obtain ⟨ds, e1, ev1⟩ := Option.bind_eq_some_iff.mp ev
  refine q σ H P ρ _ ds fr er e1 fun vs H1 s1 r1 => ?_
  exact hr P H1 ds d vs Q (fr.same s1) r1 ev1 fun z H' s n tn => k z H' (s1.trans s) ⟨n, TopNew.back s1 tn⟩
end
end RE
/-! RE4: operators on trees: arithmetic, == and <, in, is. -/
namespace L2
open PySem PySem.Spec PyProof.Rows
set_option maxHeartbeats 4000000
theorem tuple_mul_one (l : Addr) (items : Array Value) (n : Nat) (dd : Option Addr) (sl : Array (Option Value)) (u : Tok) :
    Meets (Builtin.«tuple.__mul__» ⟨[.ref l, .int 1 u], []⟩) (fun _ R s => s.heap.get? l = some { cls := .type "tuple", dict := dd, data := .seq items n, slots := sl } ∧ R (.ok (.ret (Value.ref l))) s) :=
  .of_wp fun prog w A R s h => by
    obtain ⟨hp, g, d, tk, os⟩ := s
    obtain ⟨hl, h⟩ := h
    have f1 := AutoSeq1.idx_int
    have c0 : (decide ((1 : Int) < -(2 ^ 63)) || decide ((1 : Int) ≥ 2 ^ 63)) = false := by decide
    have c1 : (items.isEmpty || (1 : Int) == 1) = true := by simp
    wp_walk using wpAny_loadPart' hl
    repeat (first
      | (refine wpAny_ite_false (decide_eq_false (by rw [c0]; exact Bool.false_ne_true)) ?_; wp_walk using wpAny_loadPart' hl)
      | (refine wpAny_ite_true (decide_eq_true c1) ?_; wp_walk using wpAny_loadPart' hl))
    all_goals (first | exact ⟨_, rfl, h⟩ | skip)
/-- a tuple once: the same one -/
def rRepT1 (K : PySem.W.Frag) : R2 := fun x y H Q => ∃ l xs, x = .ref l ∧ y = .int 1 ∧ SqT K H l xs ∧ Q (.ref l) H
theorem op_repT1 {X : Cx} : OpR X (binaryOp .Mult) (rRepT1 X.K) := by
  intro pins s σ H x y v u Q I rx ry h
  obtain ⟨l, xs, rfl, rfl, hT, q⟩ := h
  cases rx
  obtain ⟨t, rfl⟩ := ry
  obtain ⟨its, r, ⟨⟨cls, dd, data, sl⟩, ho, hc, n, hd⟩, hs⟩ := I.tuple hT
  simp only at hc hd
  subst hc hd
  refine wpAny_binaryOp_repeat_ref (T := "tuple") (U := "int") (by decide) ⟨_, ho, rfl⟩ (fun s' => typeIs_int s' 1 t) noFill_tuple_mul F.fills_int_mul F.slot_int_rmul repeat_tuple F.slot_int_index.lookup
    (call_meets F.slot_int_rmul (typeIs_int s 1 t) F.entry_int_rmul (F.args_int_rmul_2 _ _) (int_rmul_tuple 1 t l its.toArray n dd sl)
      ⟨ho, rfl, ⟨_, ho, rfl⟩, call_meets F.slot_tuple_mul ⟨_, ho, rfl⟩ F.entry_tuple_mul (F.args_tuple_mul_2 _ _) (tuple_mul_one l its.toArray n dd sl t) ⟨ho, ?_⟩⟩)
  exact ⟨.ref l, H, I, rfl, q⟩
theorem foldl_repN (its : Array Nat) : ∀ (m : Nat) (acc : Array Nat), (List.replicate m its).foldl (· ++ ·) acc = (acc.toList ++ (List.replicate m its.toList).flatten).toArray
  | 0, acc => by simp
  | m + 1, acc => by
    rw [List.replicate_succ, List.foldl_cons, foldl_repN its m, List.replicate_succ, List.flatten_cons, Array.toList_append, List.append_assoc]
/-- a text so many times -/
def mulS (z : Str) (k : Int) : Str := ⟨(List.replicate k.toNat z.cps.toList).flatten.toArray⟩
theorem mulS_len (z : Str) (k : Int) : (mulS z k).length = k.toNat * z.length := by
  show ((List.replicate k.toNat z.cps.toList).flatten.toArray).size = _
  rw [List.size_toArray, PyProof.Rows.lm_len_rep_flat, Array.length_toList]
  rfl
def rMulS : R2 := fun x y H Q => ∃ z k, x = .str z ∧ y = .int k ∧ 1 ≤ k ∧ k ≤ 1000 ∧ z.length ≤ 1000 ∧ Q (.str (mulS z k)) H
theorem op_mulS {X : Cx} : OpR X (binaryOp .Mult) rMulS := by
  intro pins s σ H x y v u Q I rx ry h
  obtain ⟨z, k, rfl, rfl, h1, h2, hz, q⟩ := h
  obtain ⟨t, rfl⟩ := (show ∃ t, v = .str z t from rx)
  obtain ⟨t', rfl⟩ := ry
  have hle : k.toNat * z.length ≤ 1000 * 1000 := Nat.mul_le_mul (by omega) hz
  have hfl : (⟨(List.replicate k.toNat z.cps).foldl (· ++ ·) #[]⟩ : Str) = mulS z k := by
    have := foldl_repN z.cps k.toNat #[]
    unfold mulS
    rw [this]
    simp
  have hlen := mulS_len z k
  refine P.mul_str ?_ (fun _ _ => ?_) (fun _ _ => ?_) ?_
  · rw [decide_eq_false (by omega), decide_eq_false (by omega)]; rfl
  · have : (2 ^ 63 - 1) / k ≥ 1000 := by
      refine Int.le_ediv_of_mul_le (by omega) ?_
      omega
    omega
  · unfold Builtin.Str.tooLong
    exact decide_eq_false (by rw [sizeLine_eq]; rw [Nat.mul_comm]; omega)
  · rw [if_neg (by omega)]
    by_cases c : (k == 1 || z.length == 0) = true
    · rw [if_pos c]
      have e : mulS z k = z := by
        unfold mulS
        rw [Bool.or_eq_true, beq_iff_eq, beq_iff_eq] at c
        rcases c with c | c
        · subst c
          show (⟨(List.replicate 1 z.cps.toList).flatten.toArray⟩ : Str) = z
          simp
        · have : z.cps.toList = [] := List.eq_nil_of_length_eq_zero (by rw [Array.length_toList]; exact c)
          have e2 : z.cps = #[] := by
            rw [← Array.toArray_toList (xs := z.cps), this]
          cases z with
          | mk cs => simp only at e2; subst e2; simp
      rw [e] at q
      exact ⟨.str z, H, I, ⟨t, rfl⟩, q⟩
    · rw [if_neg c, hfl]
      exact ⟨by rw [hlen, sizeLine_eq]; omega, .str _, H, I.tok _, ⟨_, rfl⟩, q⟩
end L2
namespace RE
open PySem PySem.Spec PyProof.Rows L2

/-! ### trees as the library's data -/
mutual
def toP : D → PyData
  | .non => .none
  | .bl b => .bool b
  | .int i => .int i
  | .str s => .str s
  | .tup xs => .tuple (toPs xs)
  | .lst xs => .list (toPs xs)
  | .dic _ _ => .none
  | .scr _ => .none
  | .fn _ => .none
def toPs : List D → List PyData
  | [] => []
  | d :: ds => toP d :: toPs ds
end
theorem toPs_map : ∀ ds : List D, toPs ds = ds.map toP
  | [] => by simp only [toPs, List.map_nil]
  | d :: ds => by simp only [toPs, List.map_cons, toPs_map ds]
/-- no dict, no def, no script within; at most so deep -/
def pd : Nat → D → Bool
  | _, .non => true
  | _, .bl _ => true
  | _, .int _ => true
  | _, .str _ => true
  | n + 1, .tup xs => xs.all (pd n)
  | n + 1, .lst xs => xs.all (pd n)
  | _, _ => false
theorem pds_ok {n : Nat} (ih : ∀ d, pd n d = true → (toP d).plain = true ∧ (toP d).depth ≤ n) : ∀ {xs : List D}, xs.all (pd n) = true → PyData.plainAll (toPs xs) = true ∧ PyData.depthAll (toPs xs) ≤ n
  | [], _ => by simp [toPs, PyData.plainAll, PyData.depthAll]
  | d :: ds, h => by
    rw [List.all_cons, Bool.and_eq_true] at h
    have h1 := ih d h.1
    have h2 := pds_ok ih h.2
    simp only [toPs, PyData.plainAll, PyData.depthAll, Bool.and_eq_true]
    exact ⟨⟨h1.1, h2.1⟩, Nat.max_le.mpr ⟨h1.2, h2.2⟩⟩
theorem pd_ok : ∀ (n : Nat) (d : D), pd n d = true → (toP d).plain = true ∧ (toP d).depth ≤ n
  | n, .non, _ => by simp [toP, PyData.plain, PyData.depth]
  | n, .bl b, _ => by simp [toP, PyData.plain, PyData.depth]
  | n, .int i, _ => by simp [toP, PyData.plain, PyData.depth]
  | n, .str s, _ => by simp [toP, PyData.plain, PyData.depth]
  | 0, .tup xs, h => by simp [pd] at h
  | 0, .lst xs, h => by simp [pd] at h
  | n + 1, .tup xs, h => by
    have := pds_ok (pd_ok n) (xs := xs) (by simpa only [pd] using h)
    simp only [toP, PyData.plain, PyData.depth]
    exact ⟨this.1, Nat.succ_le_succ this.2⟩
  | n + 1, .lst xs, h => by
    have := pds_ok (pd_ok n) (xs := xs) (by simpa only [pd] using h)
    simp only [toP, PyData.plain, PyData.depth]
    exact ⟨this.1, Nat.succ_le_succ this.2⟩
  | n, .dic _ _, h => by cases n <;> simp [pd] at h
  | n, .scr _, h => by cases n <;> simp [pd] at h
  | n, .fn _, h => by cases n <;> simp [pd] at h

mutual
theorem Rep.dp {K : PySem.W.Frag} {P : Addr → Prop} {H : Hp} : ∀ (d : D) (v : V), (toP d).plain = true → (∀ t f, d ≠ .dic t f) → (∀ f, d ≠ .scr f) → (∀ n x, pd n d = x → True) → Rep P H d v → (∃ n, pd n d = true) → Dp K H v (toP d)
  | .non, v, _, _, _, _, h, _ => by simp only [Rep] at h; subst h; simp only [toP]; exact .non
  | .bl b, v, _, _, _, _, h, _ => by simp only [Rep] at h; subst h; simp only [toP]; exact .bl b
  | .int i, v, _, _, _, _, h, _ => by simp only [Rep] at h; subst h; simp only [toP]; exact .int i
  | .str s, v, _, _, _, _, h, _ => by simp only [Rep] at h; subst h; simp only [toP]; exact .str s
  | .tup ds, v, _, _, _, _, h, ⟨n, hn⟩ => by
    simp only [Rep] at h
    obtain ⟨a, vs, rfl, h1, h2⟩ := h
    cases n with
    | zero => simp [pd] at hn
    | succ n => simp only [toP]; exact .tup (SqT.of h1) (RepL.dp ds vs h2 ⟨n, by simpa only [pd] using hn⟩)
  | .lst ds, v, _, _, _, _, h, ⟨n, hn⟩ => by
    simp only [Rep] at h
    obtain ⟨a, vs, rfl, _, h1, h2⟩ := h
    cases n with
    | zero => simp [pd] at hn
    | succ n => simp only [toP]; exact .lst (SqL.of h1) (RepL.dp ds vs h2 ⟨n, by simpa only [pd] using hn⟩)
  | .dic t kvs, v, _, hd, _, _, _, _ => absurd rfl (hd t kvs)
  | .scr ns, v, _, _, hs, _, _, _ => absurd rfl (hs ns)
  | .fn f, v, _, _, _, _, h, _ => by simp only [Rep] at h
theorem RepL.dp {K : PySem.W.Frag} {P : Addr → Prop} {H : Hp} : ∀ (ds : List D) (vs : List V), RepL P H ds vs → (∃ n, ds.all (pd n) = true) → DpAll K H vs (toPs ds)
  | [], vs, h, _ => by simp only [RepL] at h; subst h; simp only [toPs]; exact .nil
  | d :: ds, vs, h, ⟨n, hn⟩ => by
    simp only [RepL] at h
    obtain ⟨v, r, rfl, h1, h2⟩ := h
    rw [List.all_cons, Bool.and_eq_true] at hn
    simp only [toPs]
    refine .cons (Rep.dp d v (pd_ok n d hn.1).1 (fun t f e => ?_) (fun f e => ?_) (fun _ _ _ => trivial) h1 ⟨n, hn.1⟩) (RepL.dp ds r h2 ⟨n, hn.2⟩)
    · subst e; have := hn.1; cases n <;> simp [pd] at this
    · subst e; have := hn.1; cases n <;> simp [pd] at this
end
theorem RepB.dp {mg : Str → Option Value} {K : PySem.W.Frag} {P : Addr → Prop} {H : Hp} {d : D} {v : V} {n : Nat} (h : RepB mg P H d v) (hn : pd n d = true) : Dp K H v (toP d) := by
  cases d with
  | non => simp only [RepB] at h; subst h; simp only [toP]; exact .non
  | bl b => simp only [RepB] at h; subst h; simp only [toP]; exact .bl b
  | int i => simp only [RepB] at h; subst h; simp only [toP]; exact .int i
  | str s => simp only [RepB] at h; subst h; simp only [toP]; exact .str s
  | tup ds =>
    simp only [RepB, Rep] at h
    obtain ⟨a, vs, rfl, h1, h2⟩ := h
    cases n with
    | zero => simp [pd] at hn
    | succ n => simp only [toP]; exact .tup (SqT.of h1) (RepL.dp ds vs h2 ⟨n, by simpa only [pd] using hn⟩)
  | lst ds =>
    simp only [RepB] at h
    obtain ⟨a, vs, rfl, h1, h2⟩ := h
    cases n with
    | zero => simp [pd] at hn
    | succ n => simp only [toP]; exact .lst (SqL.of h1) (RepL.dp ds vs h2 ⟨n, by simpa only [pd] using hn⟩)
  | dic t kvs => cases n <;> simp [pd] at hn
  | scr ns => cases n <;> simp [pd] at hn
  | fn f => cases n <;> simp [pd] at hn

/-- == of trees, as Python says of plain ones -/
def eqv (d e : D) : Bool := PyData.eqv (toP d) (toP e)
def eqvL (ds es : List D) : Bool := PyData.eqvAll (toPs ds) (toPs es)
/-- < of trees that are alike -/
def ltv (d e : D) : Bool := PySem.W.dataLt (toP d) (toP e)
def alk (d e : D) : Bool := PySem.W.alike (toP d) (toP e)
def pd2 (d e : D) : Bool := pd 64 d && pd 64 e
def eqD (d e : D) : Option D := if pd2 d e then some (.bl (eqv d e)) else none
/-- d != {} of a dict -/
def neDic : D → D → Option D
  | .dic false kvs, .dic false [] => some (.bl (!kvs.isEmpty))
  | _, _ => none
def neD (d e : D) : Option D := if pd2 d e then some (.bl (!eqv d e)) else neDic d e
def isNon : D → Bool
  | .non => true
  | _ => false
def cmpOk (d e : D) : Bool := pd2 d e && alk d e && !isNon d
def ltD (d e : D) : Option D := if cmpOk d e then some (.bl (ltv d e)) else none
def gtD (d e : D) : Option D := if cmpOk d e then some (.bl (ltv e d)) else none
def leD (d e : D) : Option D := if cmpOk d e then some (.bl (!ltv e d)) else none
def geD (d e : D) : Option D := if cmpOk d e then some (.bl (!ltv d e)) else none

theorem isNon_toP {d : D} {n : Nat} (h : pd n d = true) (hn : isNon d = false) : toP d ≠ .none := by
  cases d <;> simp only [toP] <;> first | (intro e; cases e; done) | skip
  · cases hn
  · cases n <;> simp [pd] at h
  · cases n <;> simp [pd] at h
  · cases n <;> simp [pd] at h

section
variable {X : Cx}
/-- by data: what a comparison gives on two things that read as data -/
def rData (K : PySem.W.Frag) (ok : PyData → PyData → Prop) (g : PyData → PyData → Bool) : R2 := fun x y H Q => ∃ d e, Dp K H x d ∧ Dp K H y e ∧ d.plain = true ∧ e.plain = true ∧ d.depth ≤ 64 ∧ e.depth ≤ 64 ∧ ok d e ∧ Q (.bl (g d e)) H
theorem op_data {op : CmpOp} {ok : PyData → PyData → Prop} {g : PyData → PyData → Bool} (hu : X.A.units + 64 < cLine)
    (hc : ∀ {E : Value → Shared → Prop} {s : Shared} {a b : Value} {da db : PyData} {as bs : List Addr} {Q : Value → Shared → Prop}, Reads s.heap a da as → Reads s.heap b db bs → da.plain = true → db.plain = true → ok da db → X.A.units + min da.depth db.depth < cLine → Q (.bool (g da db)) s → wpAny (model X.prog X.w) X.A (compareOp op a b) Q E s) :
    OpR X (compareOp op) (rData X.K ok g) := by
  intro pins s σ H x y v u Q I rx ry h
  obtain ⟨d, e, hd, he, pd, pe, dd, de, hok, q⟩ := h
  obtain ⟨as, r1⟩ := Dp.reads I d x v hd rx
  obtain ⟨bs, r2⟩ := Dp.reads I e y u he ry
  refine hc r1 r2 pd pe hok ?_ ⟨.bl _, H, I, rfl, q⟩
  have : min d.depth e.depth ≤ d.depth := Nat.min_le_left _ _
  omega
theorem op_eqP (hu : X.A.units + 64 < cLine) : OpR X (compareOp .Eq) (rData X.K (fun _ _ => True) PyData.eqv) := op_data hu fun ra rb ha hb _ hu hq => PySem.SeqAt.eq_plain ra rb ha hb hu hq
theorem op_neP (hu : X.A.units + 64 < cLine) : OpR X (compareOp .NotEq) (rData X.K (fun _ _ => True) fun d e => !PyData.eqv d e) := op_data hu fun ra rb ha hb _ hu hq => PySem.SeqAt.ne_plain ra rb ha hb hu hq
abbrev okC (d e : PyData) : Prop := PySem.W.alike d e = true ∧ d ≠ .none
theorem op_ltP (hu : X.A.units + 64 < cLine) : OpR X (compareOp .Lt) (rData X.K okC fun d e => PySem.W.dataLt d e) := op_data hu fun ra rb ha hb h hu hq => PySem.W.lt_data ra rb h.1 h.2 hu hq
theorem op_gtP (hu : X.A.units + 64 < cLine) : OpR X (compareOp .Gt) (rData X.K okC fun d e => PySem.W.dataLt e d) := op_data hu fun ra rb ha hb h hu hq => PySem.W.gt_data ra rb h.1 h.2 hu hq
theorem op_leP (hu : X.A.units + 64 < cLine) : OpR X (compareOp .LtE) (rData X.K okC fun d e => !PySem.W.dataLt e d) := op_data hu fun ra rb ha hb h hu hq => PySem.W.le_data ra rb h.1 h.2 hu hq
theorem op_geP (hu : X.A.units + 64 < cLine) : OpR X (compareOp .GtE) (rData X.K okC fun d e => !PySem.W.dataLt d e) := op_data hu fun ra rb ha hb h hu hq => PySem.W.ge_data ra rb h.1 h.2 hu hq
end
theorem r2_data {mg : Str → Option Value} {K : PySem.W.Frag} {ok : PyData → PyData → Prop} {g : PyData → PyData → Bool} {op : D → D → Option D}
    (hop : ∀ d e r, op d e = some r → pd 64 d = true ∧ pd 64 e = true ∧ ok (toP d) (toP e) ∧ r = .bl (g (toP d) (toP e))) : R2Ok mg (rData K ok g) op := by
  intro P H x y d v w Q fr rx ry e k
  obtain ⟨h1, h2, h3, rfl⟩ := hop x y d e
  exact ⟨toP x, toP y, rx.dp h1, ry.dp h2, (pd_ok _ _ h1).1, (pd_ok _ _ h2).1, (pd_ok _ _ h1).2, (pd_ok _ _ h2).2, h3, k _ H (Same.refl H) (by simp only [Rep]) trivial⟩
theorem pd2_of {d e : D} (h : pd2 d e = true) : pd 64 d = true ∧ pd 64 e = true := by unfold pd2 at h; rwa [Bool.and_eq_true] at h
theorem eqD_ok {mg K} : R2Ok mg (rData K (fun _ _ => True) PyData.eqv) eqD := r2_data fun d e r h => by
  unfold eqD at h; split at h
  · rename_i c; cases h; exact ⟨(pd2_of c).1, (pd2_of c).2, trivial, rfl⟩
  · cases h
def rNeE : R2 := fun x y H Q => ∃ a b ks, x = .ref a ∧ y = .ref b ∧ Rd H a (.dK ks) ∧ Rd H b (.dK []) ∧ Q (.bl (!ks.isEmpty)) H
theorem op_neE {X : Cx} (hu : X.A.units < cLine) : OpR X (compareOp .NotEq) rNeE := by
  intro pins s σ H x y v u Q I rx ry h
  obtain ⟨a, b, ks, rfl, rfl, ea, eb, q⟩ := h
  obtain rfl : v = Value.ref a := rx
  obtain rfl : u = Value.ref b := ry
  obtain ⟨_, ya, va, ra, da⟩ := dk_rd I.hok ea
  obtain ⟨_, yb, vb, rb, db⟩ := dk_rd I.hok eb
  have la := ra.length
  have lb := rb.length
  refine PySem.W.keq_ne (knd := mixKind X.prog X.w) (r := true) ya yb da db hu (fun hl => ?_) ⟨.bl (!ks.isEmpty), H, I, ?_, q⟩
  · have : va = [] := List.length_eq_zero_iff.mp (by rw [hl, ← lb]; rfl)
    subst this
    exact .nil
  · show _ = Value.bool _
    congr 1
    cases ks with
    | nil =>
      have e1 : va.length = 0 := la.symm
      have e2 : vb.length = 0 := lb.symm
      rw [e1, e2]; rfl
    | cons k ks =>
      have e1 : va.length = ks.length + 1 := by rw [← la, List.length_cons]
      have e2 : vb.length = 0 := lb.symm
      rw [e1, e2]
      simp
theorem neD_ok {mg K} : R2Ok mg (fun x y H Q => rData K (fun _ _ => True) (fun d e => !PyData.eqv d e) x y H Q ∨ rNeE x y H Q) neD := by
  intro P H x y d v w Q fr rx ry e k
  unfold neD at e
  by_cases c : pd2 x y = true
  · rw [if_pos c] at e
    cases e
    exact .inl ⟨toP x, toP y, rx.dp (pd2_of c).1, ry.dp (pd2_of c).2, (pd_ok _ _ (pd2_of c).1).1, (pd_ok _ _ (pd2_of c).2).1, (pd_ok _ _ (pd2_of c).1).2, (pd_ok _ _ (pd2_of c).2).2, trivial, k _ H (Same.refl H) (by simp only [Rep]; rfl) trivial⟩
  · rw [if_neg c] at e
    unfold neDic at e
    split at e
    · rename_i kvs
      cases e
      simp only [RepB] at rx ry
      obtain ⟨a, ps, rfl, ⟨ks, ra, rfl⟩, h2⟩ := rx
      obtain ⟨b, qs, rfl, ⟨ls, rb, rfl⟩, h4⟩ := ry
      have e2 : ls = [] := by
        unfold RepKV at h4
        exact List.map_eq_nil_iff.mp h4
      subst e2
      refine .inr ⟨a, b, ks, rfl, rfl, ra, rb, ?_⟩
      have e3 : ks.isEmpty = kvs.isEmpty := by
        cases kvs with
        | nil =>
          unfold RepKV at h2
          rw [List.map_eq_nil_iff.mp h2]; rfl
        | cons p kvs =>
          obtain ⟨kk, dd⟩ := p
          unfold RepKV at h2
          obtain ⟨v, r, e, _⟩ := h2
          cases ks with
          | nil => cases e
          | cons _ _ => rfl
      rw [e3]
      exact k _ H (Same.refl H) (by simp only [Rep]) trivial
    · cases e
theorem cmpOk_of {d e : D} (h : cmpOk d e = true) : pd 64 d = true ∧ pd 64 e = true ∧ okC (toP d) (toP e) := by
  unfold cmpOk at h
  rw [Bool.and_eq_true, Bool.and_eq_true, Bool.not_eq_true'] at h
  obtain ⟨⟨h1, h2⟩, h3⟩ := h
  exact ⟨(pd2_of h1).1, (pd2_of h1).2, h2, isNon_toP (pd2_of h1).1 h3⟩
theorem ltD_ok {mg K} : R2Ok mg (rData K okC fun d e => PySem.W.dataLt d e) ltD := r2_data fun d e r h => by
  unfold ltD at h; split at h
  · rename_i c; cases h; exact ⟨(cmpOk_of c).1, (cmpOk_of c).2.1, (cmpOk_of c).2.2, rfl⟩
  · cases h
theorem gtD_ok {mg K} : R2Ok mg (rData K okC fun d e => PySem.W.dataLt e d) gtD := r2_data fun d e r h => by
  unfold gtD at h; split at h
  · rename_i c; cases h; exact ⟨(cmpOk_of c).1, (cmpOk_of c).2.1, (cmpOk_of c).2.2, rfl⟩
  · cases h
theorem leD_ok {mg K} : R2Ok mg (rData K okC fun d e => !PySem.W.dataLt e d) leD := r2_data fun d e r h => by
  unfold leD at h; split at h
  · rename_i c; cases h; exact ⟨(cmpOk_of c).1, (cmpOk_of c).2.1, (cmpOk_of c).2.2, rfl⟩
  · cases h
theorem geD_ok {mg K} : R2Ok mg (rData K okC fun d e => !PySem.W.dataLt d e) geD := r2_data fun d e r h => by
  unfold geD at h; split at h
  · rename_i c; cases h; exact ⟨(cmpOk_of c).1, (cmpOk_of c).2.1, (cmpOk_of c).2.2, rfl⟩
  · cases h

/-! ### arithmetic -/
/-- not too great for the model's // and * -/
def wid (i : Int) : Bool := decide (i.natAbs.log2 < 9000)
def wim (i : Int) : Bool := decide (i.natAbs.log2 < 400000)
def addD : D → D → Option D
  | .int i, .int j => some (.int (i + j))
  | .str a, .str b => if fits (a.length + b.length) then some (.str (a ++ b)) else none
  | .lst a, .lst b => if fits (a.length + b.length) then some (.lst (a ++ b)) else none
  | .tup a, .tup b => if fits (a.length + b.length) then some (.tup (a ++ b)) else none
  | _, _ => none
def subD : D → D → Option D
  | .int i, .int j => some (.int (i - j))
  | _, _ => none
def modD : D → D → Option D
  | .int i, .int j => if j != 0 then some (.int (i.fmod j)) else none
  | _, _ => none
def fdivD : D → D → Option D
  | .int i, .int j => if j != 0 && wid j then some (.int (i.fdiv j)) else none
  | _, _ => none
def powD : D → D → Option D
  | .int i, .int j => if decide (0 ≤ j) && decide (j ≤ 1000) && decide (i.natAbs < 1000) then some (.int (i ^ j.toNat)) else none
  | _, _ => none
def repL {α : Type} (k : Int) (xs : List α) : List α := (List.replicate k.toNat xs).flatten
def mulD : D → D → Option D
  | .int i, .int j => if wim i && wim j then some (.int (i * j)) else none
  | .lst xs, .int k => if decide (-1000 ≤ k) && decide (k ≤ 1000) && fits (xs.length * k.toNat) then some (.lst (repL k xs)) else none
  | .tup xs, .int k => if k = 1 then some (.tup xs) else if decide (2 ≤ k) && decide (k ≤ 1000) && decide (xs.length ≤ 1000) && !xs.isEmpty then some (.tup (repL k xs)) else none
  | .str z, .int k => if decide (1 ≤ k) && decide (k ≤ 1000) && decide (z.length ≤ 1000) then some (.str (mulS z k)) else none
  | _, _ => none
theorem RepL.app {P : Addr → Prop} {H : Hp} : ∀ {ds es : List D} {vs ws : List V}, RepL P H ds vs → RepL P H es ws → RepL P H (ds ++ es) (vs ++ ws)
  | [], _, _, _, h, g => by simp only [RepL] at h; subst h; exact g
  | d :: ds, es, vs, ws, h, g => by
    simp only [RepL] at h
    obtain ⟨v, r, rfl, h1, h2⟩ := h
    show RepL P H (d :: (ds ++ es)) (v :: (r ++ ws))
    simp only [RepL]
    exact ⟨v, r ++ ws, rfl, h1, RepL.app h2 g⟩
theorem RepL.rep {P : Addr → Prop} {H : Hp} {ds : List D} {vs : List V} (h : RepL P H ds vs) : ∀ n : Nat, RepL P H (List.replicate n ds).flatten (List.replicate n vs).flatten
  | 0 => by simp only [List.replicate_zero, List.flatten_nil, RepL]
  | n + 1 => by simp only [List.replicate_succ, List.flatten_cons]; exact h.app (h.rep n)
/-- the places of a tuple, of a list -/
theorem RepB.tup {mg : Str → Option Value} {P : Addr → Prop} {H : Hp} {ds : List D} {v : V} (h : RepB mg P H (.tup ds) v) : ∃ a vs, v = .ref a ∧ H a = some (.tup vs) ∧ RepL P H ds vs := by simpa only [RepB, Rep] using h
theorem RepB.lst {mg : Str → Option Value} {P : Addr → Prop} {H : Hp} {ds : List D} {v : V} (h : RepB mg P H (.lst ds) v) : ∃ a vs, v = .ref a ∧ H a = some (.lst vs) ∧ RepL P H ds vs := by simpa only [RepB] using h
theorem rep_newL {P : Addr → Prop} {H : Hp} {p : Addr} {ds : List D} {vs : List V} (fr : Fre P H) (hp : H p = none) (h : RepL P H ds vs) : Rep P (upd H p (.lst vs)) (.lst ds) (.ref p) := by
  simp only [Rep]
  exact ⟨p, vs, rfl, fr p hp, upd_same, h.same (same_new hp)⟩
theorem rep_newT {P : Addr → Prop} {H : Hp} {p : Addr} {ds : List D} {vs : List V} (hp : H p = none) (h : RepL P H ds vs) : Rep P (upd H p (.tup vs)) (.tup ds) (.ref p) := by
  simp only [Rep]
  exact ⟨p, vs, rfl, upd_same, h.same (same_new hp)⟩
theorem topNew_ref {H : Hp} {p : Addr} {d : D} (hp : H p = none) : TopNew H d (.ref p) := by
  cases d <;> simp only [TopNew] <;> (intro a e; cases e; exact hp)
abbrev rAddD (K : PySem.W.Frag) : R2 := fun x y H Q => rI0 (fun i j => .int (i + j)) x y H Q ∨ (∃ i j, x = .str i ∧ y = .str j ∧ i.length + j.length ≤ sizeLine ∧ Q (.str (i ++ j)) H) ∨ rCat x y H Q ∨ rCatA K x y H Q
theorem op_addD {X : Cx} : OpR X (binaryOp .Add) (rAddD X.K) := op_add.or (op_add_str.or (op_cat.or op_catA))
theorem addD_ok {mg K} : R2Ok mg (rAddD K) addD := by
  intro P H x y d v w Q fr rx ry e k
  cases x <;> cases y <;> simp only [addD] at e <;> first | (cases e; done) | skip
  · cases e
    simp only [RepB] at rx ry
    exact .inl ⟨_, _, rx, ry, k _ H (Same.refl H) (by simp only [Rep]) trivial⟩
  · split at e
    · rename_i c
      cases e
      simp only [RepB] at rx ry
      exact .inr (.inl ⟨_, _, rx, ry, of_decide_eq_true c, k _ H (Same.refl H) (by simp only [Rep]) trivial⟩)
    · cases e
  · split at e
    · rename_i c
      cases e
      obtain ⟨a, vs, rfl, ha, r1⟩ := rx.tup
      obtain ⟨b, ws, rfl, hb, r2⟩ := ry.tup
      refine .inr (.inr (.inr ⟨a, b, vs, ws, rfl, rfl, SqT.of ha, SqT.of hb, ?_, fun z => ?_, fun _ z => ?_, fun _ _ p hp => ?_⟩))
      · rw [r1.len, r2.len]; exact of_decide_eq_true c
      · refine k _ H (Same.refl H) ?_ trivial
        subst z
        have r3 := r1.app r2
        simp only [Rep]
        exact ⟨b, ws, rfl, hb, by simpa using r3⟩
      · refine k _ H (Same.refl H) ?_ trivial
        subst z
        have r3 := r1.app r2
        simp only [Rep]
        exact ⟨a, vs, rfl, ha, by simpa using r3⟩
      · exact k _ _ (same_new hp) (rep_newT hp (r1.app r2)) trivial
    · cases e
  · split at e
    · rename_i c
      cases e
      obtain ⟨a, vs, rfl, ha, r1⟩ := rx.lst
      obtain ⟨b, ws, rfl, hb, r2⟩ := ry.lst
      refine .inr (.inr (.inl ⟨a, b, vs, ws, rfl, rfl, ha, hb, ?_, fun p hp => ?_⟩))
      · rw [r1.len, r2.len]; exact of_decide_eq_true c
      · exact k _ _ (same_new hp) (rep_newL fr hp (r1.app r2)) (topNew_ref hp)
    · cases e
theorem subD_ok {mg} : R2Ok mg (rI0 fun i j => .int (i - j)) subD := by
  intro P H x y d v w Q fr rx ry e k
  cases x <;> cases y <;> simp only [subD] at e <;> first | (cases e; done) | skip
  cases e
  simp only [RepB] at rx ry
  exact ⟨_, _, rx, ry, k _ H (Same.refl H) (by simp only [Rep]) trivial⟩
theorem modD_ok {mg} : R2Ok mg (rI (fun _ j => j ≠ 0) fun i j => .int (i.fmod j)) modD := by
  intro P H x y d v w Q fr rx ry e k
  cases x <;> cases y <;> simp only [modD] at e <;> first | (cases e; done) | skip
  split at e
  · rename_i c
    cases e
    simp only [RepB] at rx ry
    exact ⟨_, _, rx, ry, by simpa using c, k _ H (Same.refl H) (by simp only [Rep]) trivial⟩
  · cases e
theorem op_fdivA {X : Cx} : OpR X (binaryOp .FloorDiv) (rI (fun _ j => j ≠ 0 ∧ j.natAbs.log2 < 9000) fun i j => .int (i.fdiv j)) := opI fun _ _ _ _ _ _ _ hc q => floordiv_int hc.1 q (.inl (PyProof.noPylong_of_log2 hc.2))
theorem fdivD_ok {mg} : R2Ok mg (rI (fun _ j => j ≠ 0 ∧ j.natAbs.log2 < 9000) fun i j => .int (i.fdiv j)) fdivD := by
  intro P H x y d v w Q fr rx ry e k
  cases x <;> cases y <;> simp only [fdivD] at e <;> first | (cases e; done) | skip
  split at e
  · rename_i c
    cases e
    simp only [RepB] at rx ry
    rw [Bool.and_eq_true] at c
    exact ⟨_, _, rx, ry, ⟨by simpa using c.1, of_decide_eq_true c.2⟩, k _ H (Same.refl H) (by simp only [Rep]) trivial⟩
  · cases e
theorem powD_ok {mg} : R2Ok mg (rI CPow fun i j => .int (i ^ j.toNat)) powD := by
  intro P H x y d v w Q fr rx ry e k
  cases x <;> cases y <;> simp only [powD] at e <;> first | (cases e; done) | skip
  split at e
  · rename_i c
    cases e
    simp only [RepB] at rx ry
    rw [Bool.and_eq_true, Bool.and_eq_true, decide_eq_true_eq, decide_eq_true_eq, decide_eq_true_eq] at c
    exact ⟨_, _, rx, ry, ⟨c.1.1, by omega, by have := c.2; omega⟩, k _ H (Same.refl H) (by simp only [Rep]) trivial⟩
  · cases e
abbrev rMulD (K : PySem.W.Frag) : R2 := fun x y H Q => rI CMulW (fun i j => .int (i * j)) x y H Q ∨ rRep x y H Q ∨ rRepT K x y H Q ∨ rRepT1 K x y H Q ∨ rMulS x y H Q
theorem op_mulD {X : Cx} : OpR X (binaryOp .Mult) (rMulD X.K) := op_mulW.or (op_rep.or (op_repT.or (op_repT1.or op_mulS)))
theorem mulD_ok {mg K} : R2Ok mg (rMulD K) mulD := by
  intro P H x y d v w Q fr rx ry e k
  cases x <;> cases y <;> simp only [mulD] at e <;> first | (cases e; done) | skip
  · split at e
    · rename_i c
      cases e
      simp only [RepB] at rx ry
      rw [Bool.and_eq_true] at c
      have h1 := of_decide_eq_true c.1
      have h2 := of_decide_eq_true c.2
      exact .inl ⟨_, _, rx, ry, by unfold CMulW; omega, k _ H (Same.refl H) (by simp only [Rep]) trivial⟩
    · cases e
  · split at e
    · rename_i c
      cases e
      rw [Bool.and_eq_true, Bool.and_eq_true, decide_eq_true_eq, decide_eq_true_eq, decide_eq_true_eq] at c
      simp only [RepB] at rx ry
      exact .inr (.inr (.inr (.inr ⟨_, _, rx, ry, c.1.1, c.1.2, c.2, k _ H (Same.refl H) (by simp only [Rep]) trivial⟩)))
    · cases e
  · split at e
    · rename_i c1
      cases e
      obtain ⟨a, vs, rfl, ha, r1⟩ := rx.tup
      simp only [RepB] at ry
      subst c1
      exact .inr (.inr (.inr (.inl ⟨a, vs, rfl, ry, SqT.of ha, k _ H (Same.refl H) (by simp only [Rep]; exact ⟨a, vs, rfl, ha, r1⟩) trivial⟩)))
    split at e
    · rename_i c
      cases e
      rw [Bool.and_eq_true, Bool.and_eq_true, Bool.and_eq_true, decide_eq_true_eq, decide_eq_true_eq, decide_eq_true_eq] at c
      obtain ⟨⟨⟨c1, c2⟩, c3⟩, c4⟩ := c
      obtain ⟨a, vs, rfl, ha, r1⟩ := rx.tup
      simp only [RepB] at ry
      refine .inr (.inr (.inl ⟨a, _, vs, rfl, ry, SqT.of ha, ?_, c1, c2, by rw [r1.len]; exact c3, fun p hp => ?_⟩))
      · intro z
        have := r1.isEmpty
        rw [z] at this
        rw [← this] at c4
        cases c4
      · exact k _ _ (same_new hp) (rep_newT hp (r1.rep _)) trivial
    · cases e
  · split at e
    · rename_i c
      cases e
      rw [Bool.and_eq_true, Bool.and_eq_true, decide_eq_true_eq, decide_eq_true_eq] at c
      obtain ⟨⟨c1, c2⟩, c3⟩ := c
      obtain ⟨a, vs, rfl, ha, r1⟩ := rx.lst
      simp only [RepB] at ry
      refine .inr (.inl ⟨a, _, vs, rfl, ry, ha, by omega, by omega, by rw [r1.len]; exact of_decide_eq_true c3, fun p hp => ?_⟩)
      exact k _ _ (same_new hp) (rep_newL fr hp (r1.rep _)) (topNew_ref hp)
    · cases e

/-! ### unary -/
def negD : D → Option D
  | .int i => some (.int (-i))
  | _ => none
theorem negD_ok {mg} : R1Ok mg (rU fun i => .int (-i)) negD := by
  intro P H x d v Q fr rx e k
  cases x <;> simp only [negD] at e <;> first | (cases e; done) | skip
  cases e
  simp only [RepB] at rx
  exact ⟨_, rx, k _ H (Same.refl H) (by simp only [Rep]) trivial⟩

/-! ### is -/
def isD : D → D → Option D
  | x, .non => some (.bl (isNon x))
  | .bl a, .bl b => some (.bl (decide (a = b)))
  | _, _ => none
def isntD : D → D → Option D
  | x, .non => some (.bl (!isNon x))
  | .bl a, .bl b => some (.bl (!decide (a = b)))
  | _, _ => none
abbrev rIsD : R2 := fun x y H Q => (y = .non ∧ Q (.bl (decide (x = .non))) H) ∨ ∃ a b, x = .bl a ∧ y = .bl b ∧ Q (.bl (decide (a = b))) H
abbrev rIsntD : R2 := fun x y H Q => (y = .non ∧ Q (.bl (!decide (x = .non))) H) ∨ ∃ a b, x = .bl a ∧ y = .bl b ∧ Q (.bl (!decide (a = b))) H
theorem op_isD {X : Cx} : OpR X (compareOp .Is) rIsD := op_isN.or op_isBl
theorem op_isntD {X : Cx} : OpR X (compareOp .IsNot) rIsntD := op_notN.or op_notBl
theorem RepB.isNon {mg : Str → Option Value} {P : Addr → Prop} {H : Hp} {d : D} {v : V} (r : RepB mg P H d v) : decide (v = .non) = isNon d := by
  cases d <;> simp only [RepB, Rep] at r <;> simp only [RE.isNon]
  · subst r; rfl
  · subst r; rfl
  · subst r; rfl
  · subst r; rfl
  · obtain ⟨a, vs, rfl, _⟩ := r; rfl
  · obtain ⟨a, vs, rfl, _⟩ := r; rfl
  · obtain ⟨a, vs, rfl, _⟩ := r; rfl
  · obtain ⟨a, vs, rfl, _⟩ := r; rfl
  · obtain ⟨a, rfl, _⟩ := r; rfl
theorem isD_ok {mg} : R2Ok mg rIsD isD := by
  intro P H x y d v w Q fr rx ry e k
  unfold isD at e
  split at e
  · cases e
    simp only [RepB] at ry
    refine .inl ⟨ry, ?_⟩
    rw [rx.isNon]
    exact k _ H (Same.refl H) (by simp only [Rep]) trivial
  · cases e
    simp only [RepB] at rx ry
    exact .inr ⟨_, _, rx, ry, k _ H (Same.refl H) (by simp only [Rep]) trivial⟩
  · cases e
theorem isntD_ok {mg} : R2Ok mg rIsntD isntD := by
  intro P H x y d v w Q fr rx ry e k
  unfold isntD at e
  split at e
  · cases e
    simp only [RepB] at ry
    refine .inl ⟨ry, ?_⟩
    rw [rx.isNon]
    exact k _ H (Same.refl H) (by simp only [Rep]) trivial
  · cases e
    simp only [RepB] at rx ry
    exact .inr ⟨_, _, rx, ry, k _ H (Same.refl H) (by simp only [Rep]) trivial⟩
  · cases e
end RE
/-! RE5: indexes, slices, in, built-ins. -/
namespace RE
open PySem PySem.Spec PyProof.Rows L2

theorem pe_or2 {X : Cx} {e : Expr} {t u : TE} (h : PE X e t) (g : PE X e u) : PE X e (fun σ H Q => t σ H Q ∨ u σ H Q) :=
  ⟨fun pins s σ H Q I q => q.elim (h.run pins s σ H Q I) (g.run pins s σ H Q I)⟩

theorem RepL.get {P : Addr → Prop} {H : Hp} : ∀ {ds : List D} {vs : List V} {i : Nat} {d : D}, RepL P H ds vs → ds[i]? = some d → ∃ v, vs[i]? = some v ∧ Rep P H d v
  | [], _, i, d, _, e => by simp at e
  | d0 :: ds, vs, 0, d, h, e => by
    simp only [RepL] at h
    obtain ⟨v, r, rfl, h1, _⟩ := h
    simp at e; subst e
    exact ⟨v, rfl, h1⟩
  | d0 :: ds, vs, i + 1, d, h, e => by
    simp only [RepL] at h
    obtain ⟨v, r, rfl, _, h2⟩ := h
    obtain ⟨u, e1, r1⟩ := RepL.get (i := i) (d := d) h2 (by simpa using e)
    exact ⟨u, by simpa using e1, r1⟩
theorem RepL.drop {P : Addr → Prop} {H : Hp} : ∀ {ds : List D} {vs : List V} (n : Nat), RepL P H ds vs → RepL P H (ds.drop n) (vs.drop n)
  | _, _, 0, h => h
  | [], _, n + 1, h => by simp only [RepL] at h; subst h; simp [RepL]
  | d :: ds, vs, n + 1, h => by
    simp only [RepL] at h
    obtain ⟨v, r, rfl, _, h2⟩ := h
    exact RepL.drop n h2
theorem RepL.take {P : Addr → Prop} {H : Hp} : ∀ {ds : List D} {vs : List V} (n : Nat), RepL P H ds vs → RepL P H (ds.take n) (vs.take n)
  | _, _, 0, _ => by simp [RepL]
  | [], _, n + 1, h => by simp only [RepL] at h; subst h; simp [RepL]
  | d :: ds, vs, n + 1, h => by
    simp only [RepL] at h
    obtain ⟨v, r, rfl, h1, h2⟩ := h
    simp only [List.take_succ_cons, RepL]
    exact ⟨v, _, rfl, h1, RepL.take n h2⟩
theorem RepL.atI {P : Addr → Prop} {H : Hp} {ds : List D} {vs : List V} {i : Int} {d : D} (h : RepL P H ds vs) (e : L2.atI ds i = some d) : ∃ v, L2.atI vs i = some v ∧ Rep P H d v := by
  unfold L2.atI at e ⊢
  rw [← h.len] at e
  obtain ⟨j, e1, e2⟩ := Option.bind_eq_some_iff.mp e
  obtain ⟨v, e3, r⟩ := h.get e2
  exact ⟨v, by rw [e1]; exact e3, r⟩

/-! ### dicts by keys -/
def keyA : D → Option Key
  | .int i => some (.inl i)
  | .str s => some (.inr s)
  | _ => none
def keysA : List D → Option (List Key)
  | [] => some []
  | d :: ds => (keyA d).bind fun k => (keysA ds).bind fun ks => some (k :: ks)
def keyT : D → Option (List Key)
  | .tup xs => keysA xs
  | _ => none
theorem keyA_keyD (k : Key) : keyA (keyD k) = some k := by cases k <;> rfl
theorem keyA_some {d : D} {k : Key} (h : keyA d = some k) : d = keyD k := by
  cases d <;> simp [keyA] at h <;> subst h <;> rfl
theorem keysA_map : ∀ ks : List Key, keysA (ks.map keyD) = some ks
  | [] => rfl
  | k :: ks => by simp only [List.map_cons, keysA, keyA_keyD, keysA_map ks]; rfl
theorem keysA_some : ∀ {ds : List D} {ks : List Key}, keysA ds = some ks → ds = ks.map keyD
  | [], ks, h => by simp [keysA] at h; subst h; rfl
  | d :: ds, ks, h => by
    simp only [keysA] at h
    obtain ⟨k, e1, h⟩ := Option.bind_eq_some_iff.mp h
    obtain ⟨ks', e2, h⟩ := Option.bind_eq_some_iff.mp h
    cases h
    rw [keyA_some e1, keysA_some e2]; rfl
theorem keyT_some {d : D} {ks : List Key} (h : keyT d = some ks) : d = .tup (ks.map keyD) := by
  cases d <;> simp [keyT] at h
  rw [keysA_some h]
/-- what a dict holds at a key of its kind -/
def dget (t : Bool) (kvs : List (D × D)) (k : D) : Option (Option D) :=
  match t with
  | false => (keyA k).map fun q => (kvs.find? fun p => decide (keyA p.1 = some q)).map (·.2)
  | true => (keyT k).map fun q => (kvs.find? fun p => decide (keyT p.1 = some q)).map (·.2)
/-- in its place, or at the end -/
def dput (t : Bool) (kvs : List (D × D)) (k v : D) : Option (List (D × D)) :=
  match t with
  | false => (keyA k).map fun q => if (kvs.any fun p => decide (keyA p.1 = some q)) = true then kvs.map (fun p => if keyA p.1 = some q then (p.1, v) else p) else kvs ++ [(k, v)]
  | true => (keyT k).map fun q => if (kvs.any fun p => decide (keyT p.1 = some q)) = true then kvs.map (fun p => if keyT p.1 = some q then (p.1, v) else p) else kvs ++ [(k, v)]

section
variable {P : Addr → Prop} {H : Hp} {κ : Type} [DecidableEq κ]
theorem kv_find (kt : D → Option κ) (inj : κ → D) (hk : ∀ k, kt (inj k) = some k) (q : κ) : ∀ {kvs : List (D × D)} {ks : List (κ × V)}, RepKV P H kvs (ks.map fun z => (inj z.1, z.2)) →
    match (kvs.find? fun p => decide (kt p.1 = some q)).map (·.2) with
    | some d => ∃ v, valV ks q = some v ∧ Rep P H d v
    | none => valV ks q = none
  | [], [], _ => rfl
  | [], _ :: _, h => by simp [RepKV] at h
  | (k, d) :: kvs, [], h => by simp [RepKV] at h
  | (k, d) :: kvs, (k', v') :: ks, h => by
    simp only [RepKV, List.map_cons] at h
    obtain ⟨v, r, e, h1, h2⟩ := h
    simp only [List.cons.injEq, Prod.mk.injEq] at e
    obtain ⟨⟨e1, e2⟩, e3⟩ := e
    subst e1 e2 e3
    by_cases c : k' = q
    · subst c
      rw [List.find?_cons_of_pos (by simp [hk])]
      exact ⟨v', valV_pos rfl, h1⟩
    · rw [List.find?_cons_of_neg (by simp [hk]; exact c), valV_neg c]
      exact kv_find kt inj hk q h2
theorem kv_any (kt : D → Option κ) (inj : κ → D) (hk : ∀ k, kt (inj k) = some k) (q : κ) : ∀ {kvs : List (D × D)} {ks : List (κ × V)}, RepKV P H kvs (ks.map fun z => (inj z.1, z.2)) →
    (kvs.any fun p => decide (kt p.1 = some q)) = ks.any fun z => decide (z.1 = q)
  | [], [], _ => rfl
  | [], _ :: _, h => by simp [RepKV] at h
  | (k, d) :: kvs, [], h => by simp [RepKV] at h
  | (k, d) :: kvs, (k', v') :: ks, h => by
    simp only [RepKV, List.map_cons] at h
    obtain ⟨v, r, e, h1, h2⟩ := h
    simp only [List.cons.injEq, Prod.mk.injEq] at e
    obtain ⟨⟨e1, e2⟩, e3⟩ := e
    subst e1 e2 e3
    rw [List.any_cons, List.any_cons, kv_any kt inj hk q h2]
    simp only [hk, Option.some.injEq]
theorem kv_repl (kt : D → Option κ) (inj : κ → D) (hk : ∀ k, kt (inj k) = some k) (q : κ) {d0 : D} {v0 : V} (r0 : Rep P H d0 v0) : ∀ {kvs : List (D × D)} {ks : List (κ × V)}, RepKV P H kvs (ks.map fun z => (inj z.1, z.2)) →
    RepKV P H (kvs.map fun p => if kt p.1 = some q then (p.1, d0) else p) ((ks.map fun z => if z.1 = q then (z.1, v0) else z).map fun z => (inj z.1, z.2))
  | [], [], _ => by simp [RepKV]
  | [], _ :: _, h => by simp [RepKV] at h
  | (k, d) :: kvs, [], h => by simp [RepKV] at h
  | (k, d) :: kvs, (k', v') :: ks, h => by
    simp only [RepKV, List.map_cons] at h
    obtain ⟨v, r, e, h1, h2⟩ := h
    simp only [List.cons.injEq, Prod.mk.injEq] at e
    obtain ⟨⟨e1, e2⟩, e3⟩ := e
    subst e1 e2 e3
    have ih := kv_repl kt inj hk q r0 h2
    simp only [List.map_cons, hk, Option.some.injEq]
    by_cases c : k' = q
    · rw [if_pos c, if_pos c]; simp only [RepKV]; exact ⟨v0, _, rfl, r0, ih⟩
    · rw [if_neg c, if_neg c]; simp only [RepKV]; exact ⟨v', _, rfl, h1, ih⟩
theorem RepKV.app : ∀ {kvs kvs' : List (D × D)} {ps qs : List (D × V)}, RepKV P H kvs ps → RepKV P H kvs' qs → RepKV P H (kvs ++ kvs') (ps ++ qs)
  | [], _, _, _, h, g => by simp only [RepKV] at h; subst h; exact g
  | (k, d) :: kvs, _, _, qs, h, g => by
    simp only [RepKV] at h
    obtain ⟨v, r, rfl, h1, h2⟩ := h
    show RepKV P H ((k, d) :: (kvs ++ _)) ((k, v) :: (r ++ qs))
    simp only [RepKV]
    exact ⟨v, r ++ qs, rfl, h1, RepKV.app h2 g⟩
theorem kv_put (kt : D → Option κ) (inj : κ → D) (hk : ∀ k, kt (inj k) = some k) (q : κ) {d0 : D} {v0 : V} (r0 : Rep P H d0 v0) {kvs : List (D × D)} {ks : List (κ × V)} (h : RepKV P H kvs (ks.map fun z => (inj z.1, z.2))) :
    RepKV P H (if (kvs.any fun p => decide (kt p.1 = some q)) = true then kvs.map (fun p => if kt p.1 = some q then (p.1, d0) else p) else kvs ++ [(inj q, d0)]) ((putK ks q v0).map fun z => (inj z.1, z.2)) := by
  unfold putK
  rw [kv_any kt inj hk q h]
  split
  · exact kv_repl kt inj hk q r0 h
  · rw [List.map_append]
    refine h.app ?_
    simp only [List.map_cons, List.map_nil, RepKV]
    exact ⟨v0, [], rfl, r0, rfl⟩
end
theorem RepKV.len {P : Addr → Prop} {H : Hp} : ∀ {kvs : List (D × D)} {ps : List (D × V)}, RepKV P H kvs ps → ps.length = kvs.length
  | [], _, h => by simp only [RepKV] at h; subst h; rfl
  | (k, d) :: kvs, ps, h => by
    simp only [RepKV] at h
    obtain ⟨v, r, rfl, _, h2⟩ := h
    rw [List.length_cons, List.length_cons, RepKV.len h2]
theorem RepL.keys {P : Addr → Prop} {H : Hp} : ∀ {ks : List Key} {vs : List V}, RepL P H (ks.map keyD) vs → vs = ks.map kV
  | [], _, h => by simpa only [List.map_nil, RepL] using h
  | k :: ks, vs, h => by
    simp only [List.map_cons, RepL] at h
    obtain ⟨v, r, rfl, h1, h2⟩ := h
    rw [RepL.keys h2, List.map_cons]
    cases k <;> simp only [keyD, Rep] at h1 <;> rw [h1] <;> rfl
theorem RepB.key {mg : Str → Option Value} {P : Addr → Prop} {H : Hp} {k : Key} {v : V} (h : RepB mg P H (keyD k) v) : v = kV k := by
  cases k <;> simpa only [keyD, RepB, kV] using h
/-- the dict at a place, looked at -/
theorem RepB.dic {mg : Str → Option Value} {P : Addr → Prop} {H : Hp} {t : Bool} {kvs : List (D × D)} {v : V} (h : RepB mg P H (.dic t kvs) v) : ∃ a ps, v = .ref a ∧ HD t H a ps ∧ RepKV P H kvs ps := by simpa only [RepB] using h
theorem dget_ok {mg : Str → Option Value} {P : Addr → Prop} {H : Hp} {t : Bool} {kvs : List (D × D)} {k : D} {o : Option D} {v w : V} (h : RepB mg P H (.dic t kvs) v) (hk : RepB mg P H k w) (e : dget t kvs k = some o) :
    ∃ a ov, v = .ref a ∧ DGet H a w ov ∧ match o with | some d => ∃ u, ov = some u ∧ Rep P H d u | none => ov = none := by
  obtain ⟨a, ps, rfl, hd, hr⟩ := h.dic
  cases t with
  | false =>
    obtain ⟨ks, rd, rfl⟩ := hd
    simp only [dget] at e
    obtain ⟨q, e1, e2⟩ := Option.map_eq_some_iff.mp e
    have := keyA_some e1
    subst this
    have f := kv_find keyA keyD keyA_keyD q hr
    rw [e2] at f
    have ew := hk.key
    refine ⟨a, valV ks q, rfl, .inl ⟨ks, q, rd, ew, rfl⟩, ?_⟩
    cases o with
    | none => exact f
    | some d => exact f
  | true =>
    obtain ⟨ks, rd, rfl⟩ := hd
    simp only [dget] at e
    obtain ⟨q, e1, e2⟩ := Option.map_eq_some_iff.mp e
    have := keyT_some e1
    subst this
    have f := kv_find keyT (fun ks => .tup (ks.map keyD)) (fun ks => keysA_map ks) q hr
    rw [e2] at f
    obtain ⟨b, vs, rfl, hb, hvs⟩ := hk.tup
    have := hvs.keys
    subst this
    refine ⟨a, valV ks q, rfl, .inr ⟨ks, q, b, rd, rfl, hb, rfl⟩, ?_⟩
    cases o with
    | none => exact f
    | some d => exact f

/-! ### subscripts -/
def cpsAt (s : Str) (i : Int) : Option D := (L2.atI s.cps.toList i).map fun c => .str ⟨#[c]⟩
def idxD : D → D → Option D
  | .lst xs, .int i => L2.atI xs i
  | .tup xs, .int i => L2.atI xs i
  | .str s, .int i => if fits s.length then cpsAt s i else none
  | .scr ns, .int i => (L2.atI ns i).map .int
  | .dic t kvs, k => (dget t kvs k).bind id
  | _, _ => none
def plainIx : Expr → Bool
  | .Slice _ _ _ _ => false
  | _ => true
theorem plainIx_ok {b : Expr} (h : plainIx b = true) : PlainIx b := by
  intro o i
  cases b <;> first | rfl | cases h
theorem atI_map {α β : Type} (f : α → β) (xs : List α) (i : Int) : L2.atI (xs.map f) i = (L2.atI xs i).map f := by
  unfold L2.atI
  rw [List.length_map]
  cases ixN xs.length i with
  | none => rfl
  | some j => simp
section
variable {X : Cx} {ks : Ks} {F : Fn} {pos : Pos}
def cIx (f g : SE) : SE := cB idxD f g
theorem evE_idx {a b : Expr} {f g : SE} (hu : X.A.units + 1 < cLine) (hb' : plainIx b = true) (ha : EvP X ks F a f) (hb : EvP X ks F b g) : EvE X ks F (.Subscript a b pos) (cIx f g) := by
  obtain ⟨ta, pa, qa⟩ := ha.ex
  obtain ⟨tb, pb, qb⟩ := hb.ex
  refine ⟨_, pe_or2 (pe_ix ix_seq pa pb (plainIx_ok hb')) (pe_dget hu pa pb (plainIx_ok hb')), fun σ H P ρ Q d fr er ev k => ?_⟩
  obtain ⟨x, e1, ev1⟩ := Option.bind_eq_some_iff.mp ev
  obtain ⟨y, e2, ev2⟩ := Option.bind_eq_some_iff.mp ev1
  have seq : (∀ v w H', Same H H' → RepB X.mg P H' x v → RepB X.mg P H' y w → rIx X.K v w H' Q) → tOp (rIx X.K) ta tb σ H Q := fun z => by
    refine qa σ H P ρ _ x fr er e1 fun v H1 s1 r1 => ?_
    refine qb σ H1 P ρ _ y (fr.same s1) (er.same s1) e2 fun w H2 s2 r2 => ?_
    exact z v w H2 (s1.trans s2) (r1.same s2) r2
  unfold idxD at ev2
  split at ev2
  · refine .inl (seq fun v w H' s r1 r2 => ?_)
    obtain ⟨a, vs, rfl, h1, h2⟩ := r1.lst
    obtain ⟨u, e3, r3⟩ := h2.atI ev2
    simp only [RepB] at r2
    exact .inl ⟨a, vs, _, u, rfl, r2, SqL.of h1, e3, k u H' s r3⟩
  · refine .inl (seq fun v w H' s r1 r2 => ?_)
    obtain ⟨a, vs, rfl, h1, h2⟩ := r1.tup
    obtain ⟨u, e3, r3⟩ := h2.atI ev2
    simp only [RepB] at r2
    exact .inr (.inl ⟨a, vs, _, u, rfl, r2, SqT.of h1, e3, k u H' s r3⟩)
  · refine .inl (seq fun v w H' s r1 r2 => ?_)
    split at ev2
    · rename_i c
      obtain ⟨u, e3, e4⟩ := Option.map_eq_some_iff.mp ev2
      subst e4
      simp only [RepB] at r1 r2
      exact .inr (.inr ⟨_, _, u, r1, r2, of_decide_eq_true c, e3, k _ H' s (by simp only [Rep])⟩)
    · cases ev2
  · refine .inl (seq fun v w H' s r1 r2 => ?_)
    obtain ⟨u, e3, e4⟩ := Option.map_eq_some_iff.mp ev2
    subst e4
    simp only [RepB, Rep] at r1 r2
    obtain ⟨a, o, rfl, h1⟩ := r1
    refine .inl ⟨a, _, _, .int u, rfl, r2, .inl (.inr ⟨o, h1⟩), ?_, k _ H' s (by simp only [Rep])⟩
    rw [atI_map, e3]; rfl
  · rename_i t kvs
    obtain ⟨o, e3, e4⟩ := Option.bind_eq_some_iff.mp ev2
    simp only [id] at e4
    subst e4
    refine .inr (qa σ H P ρ _ _ fr er e1 fun v H1 s1 r1 => ?_)
    refine qb σ H1 P ρ _ y (fr.same s1) (er.same s1) e2 fun w H2 s2 r2 => ?_
    obtain ⟨a, ov, rfl, g, u, rfl, ru⟩ := dget_ok (r1.same s2) r2 e3
    exact ⟨a, u, rfl, g, k u H2 (s1.trans s2) ru⟩
  · cases ev2

/-! ### slices without a step -/
def cutL {α : Type} (xs : List α) (lo hi : Option Int) : List α := (xs.drop (HT.sIx xs.length 0 lo)).take (HT.sIx xs.length xs.length hi - HT.sIx xs.length 0 lo)
def slcD (lo hi : Option Int) : D → Option D
  | .lst xs => some (.lst (cutL xs lo hi))
  | .tup xs => some (.tup (cutL xs lo hi))
  | .str s => if fits s.length then some (.str (cutS s lo hi)) else none
  | _ => none
theorem RepL.cut {P : Addr → Prop} {H : Hp} {ds : List D} {vs : List V} (h : RepL P H ds vs) (lo hi : Option Int) : RepL P H (cutL ds lo hi) (cutV vs lo hi) := by
  unfold cutL cutV
  rw [h.len]
  exact (h.drop _).take _
abbrev SO := Fn → RE.Env → Option (Option Int)
def intD : D → Option Int
  | .int i => some i
  | _ => none
def cNone : SO := fun _ _ => some none
def cPart (f : SE) : SO := fun F ρ => (f F ρ).bind fun d => (intD d).map some
structure EvO (X : Cx) (ks : Ks) (F : Fn) (e : Option Expr) (f : SO) : Prop where
  ex : ∃ t : TO, PO X e t ∧ ∀ σ H (P : Addr → Prop) (ρ : RE.Env) (Q : Option Int → Hp → Prop) (o : Option Int), Fre P H → ER X.mg P ks H σ ρ → f F ρ = some o → (∀ H', Same H H' → Q o H') → t σ H Q
theorem evO_none : EvO X ks F none cNone := ⟨tNoPart, po_none, fun σ H P ρ Q o fr er ev k => by cases ev; exact k H (Same.refl H)⟩
theorem evO_some {e : Expr} {f : SE} (h : EvP X ks F e f) : EvO X ks F (some e) (cPart f) := by
  obtain ⟨t, p, q⟩ := h.ex
  refine ⟨tPart t, po_some p, fun σ H P ρ Q o fr er ev k => ?_⟩
  obtain ⟨d, e1, ev1⟩ := Option.bind_eq_some_iff.mp ev
  obtain ⟨i, e2, ev2⟩ := Option.map_eq_some_iff.mp ev1
  subst ev2
  refine q σ H P ρ _ d fr er e1 fun v H1 s1 r1 => ?_
  cases d <;> simp only [intD] at e2 <;> first | (cases e2; done) | skip
  cases e2
  simp only [RepB] at r1
  exact ⟨_, r1, k H1 s1⟩
def cSl (f : SE) (lo hi : SO) : SE := fun F ρ => (f F ρ).bind fun d => (lo F ρ).bind fun l => (hi F ρ).bind fun h => slcD l h d
theorem evN_slice {e : Expr} {lo hi : Option Expr} {f : SE} {g h : SO} {p2 : Pos} (he : EvP X ks F e f) (hl : EvO X ks F lo g) (hh : EvO X ks F hi h) : EvN X ks F (.Subscript e (.Slice lo hi none p2) pos) (cSl f g h) := by
  obtain ⟨t, p, q⟩ := he.ex
  obtain ⟨tl, pl, ql⟩ := hl.ex
  obtain ⟨th, ph, qh⟩ := hh.ex
  refine ⟨_, pe_slice (sl_list.or (sl_tupA.or sl_str)) p pl ph, fun σ H P ρ Q d fr er ev k => ?_⟩
  obtain ⟨x, e1, ev1⟩ := Option.bind_eq_some_iff.mp ev
  obtain ⟨l, e2, ev2⟩ := Option.bind_eq_some_iff.mp ev1
  obtain ⟨u, e3, ev3⟩ := Option.bind_eq_some_iff.mp ev2
  refine q σ H P ρ _ x fr er e1 fun v H1 s1 r1 => ?_
  refine ql σ H1 P ρ _ l (fr.same s1) (er.same s1) e2 fun H2 s2 => ?_
  refine qh σ H2 P ρ _ u ((fr.same s1).same s2) ((er.same s1).same s2) e3 fun H3 s3 => ?_
  have s := (s1.trans s2).trans s3
  have r := (r1.same s2).same s3
  cases x <;> simp only [slcD] at ev3 <;> first | (cases ev3; done) | skip
  · split at ev3
    · rename_i c
      cases ev3
      simp only [RepB] at r
      exact .inr (.inr ⟨_, r, of_decide_eq_true c, k _ H3 s ⟨by simp only [Rep], trivial⟩⟩)
    · cases ev3
  · cases ev3
    obtain ⟨a, vs, rfl, h1, h2⟩ := r.tup
    refine .inr (.inl ⟨a, vs, rfl, SqT.of h1, fun c => ?_, fun c p hp => ?_⟩)
    · refine k _ H3 s ⟨?_, trivial⟩
      have h3 := h2.cut l u
      have : cutV vs l u = vs := by unfold cutV; rw [c.1, c.2]; simp
      rw [this] at h3
      simp only [Rep]
      exact ⟨a, vs, rfl, h1, h3⟩
    · exact k _ _ (s.trans (same_new hp)) ⟨rep_newT hp (h2.cut l u), trivial⟩
  · cases ev3
    obtain ⟨a, vs, rfl, h1, h2⟩ := r.lst
    refine .inl ⟨a, vs, rfl, SqL.of h1, fun p hp => ?_⟩
    exact k _ _ (s.trans (same_new hp)) ⟨rep_newL (((fr.same s1).same s2).same s3) hp (h2.cut l u), topNew_ref (s.free hp)⟩
end
end RE
/-! RE6: built-ins, in. -/
namespace RE
open PySem PySem.Spec PyProof.Rows L2

/-! ### one or two arguments -/
theorem repA1 {mg : Str → Option Value} {P : Addr → Prop} {H : Hp} {x : D} {vs : List V} (h : RepA mg P H [.B, .B, .B, .B] [x] vs) : ∃ v, vs = [v] ∧ RepB mg P H x v := by
  obtain ⟨v, r, rfl, h1, h2⟩ := h
  rw [show r = [] from h2]
  exact ⟨v, rfl, h1⟩
theorem repA2 {mg : Str → Option Value} {P : Addr → Prop} {H : Hp} {x y : D} {vs : List V} (h : RepA mg P H [.B, .B, .B, .B] [x, y] vs) : ∃ v w, vs = [v, w] ∧ RepB mg P H x v ∧ RepB mg P H y w := by
  obtain ⟨v, r, rfl, h1, w, r', rfl, h2, h3⟩ := h
  rw [show r' = [] from h3]
  exact ⟨v, w, rfl, h1, h2⟩
def op1 (op : D → Option D) : List D → Option D
  | [x] => op x
  | _ => none
def op2 (op : D → D → Option D) : List D → Option D
  | [x, y] => op x y
  | _ => none
theorem rc1 {mg : Str → Option Value} {r : List V → Hp → VK → Prop} {op : D → Option D}
    (h : ∀ (P : Addr → Prop) (H : Hp) (x d : D) (v : V) (Q : VK), Fre P H → RepB mg P H x v → op x = some d → (∀ z H', Same H H' → Rep P H' d z → TopNew H d z → Q z H') → r [v] H Q) : RcOk mg r (op1 op) := by
  intro P H xs d vs Q fr ra e k
  match xs, e with
  | [x], e =>
    obtain ⟨v, rfl, rb⟩ := repA1 ra
    exact h P H x d v Q fr rb e k
theorem rc2 {mg : Str → Option Value} {r : List V → Hp → VK → Prop} {op : D → D → Option D}
    (h : ∀ (P : Addr → Prop) (H : Hp) (x y d : D) (v w : V) (Q : VK), Fre P H → RepB mg P H x v → RepB mg P H y w → op x y = some d → (∀ z H', Same H H' → Rep P H' d z → TopNew H d z → Q z H') → r [v, w] H Q) : RcOk mg r (op2 op) := by
  intro P H xs d vs Q fr ra e k
  match xs, e with
  | [x, y], e =>
    obtain ⟨v, w, rfl, rb, rb'⟩ := repA2 ra
    exact h P H x y d v w Q fr rb rb' e k

/-! ### len -/
def lenD : D → Option D
  | .str s => if fits s.length then some (.int s.length) else none
  | .lst xs => some (.int xs.length)
  | .tup xs => some (.int xs.length)
  | .scr ns => some (.int ns.length)
  | .dic _ kvs => some (.int kvs.length)
  | _ => none
theorem call_lenR {X : Cx} : CallR X (.builtin "len") (fun xs H Q => ∃ a n, xs = [V.ref a] ∧ ((∃ kvs : List (Key × V), Rd H a (.dK kvs) ∧ n = kvs.length) ∨ ∃ kvs : List (List Key × V), Rd H a (.dT kvs) ∧ n = kvs.length) ∧ Q (.int (n : Nat)) H) := by
  intro pins s σ H xs us Q I r h
  obtain ⟨a, n, rfl, h, q⟩ := h
  obtain ⟨u, rfl, rx⟩ := vals1 r
  obtain rfl : u = .ref a := rx
  rcases h with ⟨kvs, e, rfl⟩ | ⟨kvs, e, rfl⟩
  · exact d_len I e fun t s' I' => ⟨.int ((kvs.length : Nat) : Int), H, I', ⟨t, rfl⟩, q⟩
  · obtain ⟨z, hd, ys, rel, dd⟩ := dt_rd I.hok e
    have hl : kvs.length = ys.length := Paired.length rel
    refine call_len_dictH hd dd (by rw [sizeLine_eq] at z; omega) ?_
    rw [← hl]
    exact ⟨.int ((kvs.length : Nat) : Int), H, I.tok _, ⟨_, rfl⟩, q⟩
abbrev rLenD (K : PySem.W.Frag) : List V → Hp → VK → Prop := fun xs H Q => (∃ x n, xs = [x] ∧ LenV K x H n ∧ Q (.int n) H) ∨ (∃ a n, xs = [V.ref a] ∧ ((∃ kvs : List (Key × V), Rd H a (.dK kvs) ∧ n = kvs.length) ∨ ∃ kvs : List (List Key × V), Rd H a (.dT kvs) ∧ n = kvs.length) ∧ Q (.int (n : Nat)) H)
theorem call_lenD2 {X : Cx} : CallR X (.builtin "len") (rLenD X.K) := call_len.or call_lenR
theorem lenD_ok {mg K} : RcOk mg (rLenD K) (op1 lenD) := rc1 fun P H x d v Q fr rx e k => by
  cases x <;> simp only [lenD] at e <;> first | (cases e; done) | skip
  · split at e
    · rename_i c
      cases e
      simp only [RepB] at rx
      exact .inl ⟨v, _, rfl, by subst rx; exact ⟨of_decide_eq_true c, rfl⟩, k _ H (Same.refl H) (by simp only [Rep]) trivial⟩
    · cases e
  · cases e
    obtain ⟨a, vs, rfl, h1, h2⟩ := rx.tup
    exact .inl ⟨_, _, rfl, .inr ⟨vs, SqT.of h1, h2.len.symm⟩, k _ H (Same.refl H) (by simp only [Rep]) trivial⟩
  · cases e
    obtain ⟨a, vs, rfl, h1, h2⟩ := rx.lst
    exact .inl ⟨_, _, rfl, .inl ⟨vs, SqL.of h1, h2.len.symm⟩, k _ H (Same.refl H) (by simp only [Rep]) trivial⟩
  · cases e
    obtain ⟨a, ps, rfl, h1, h2⟩ := rx.dic
    have hl := h2.len
    rename_i t kvs
    cases t with
    | false =>
      obtain ⟨ks, rd, rfl⟩ := h1
      exact .inr ⟨a, kvs.length, rfl, .inl ⟨ks, rd, by rw [← hl, List.length_map]⟩, k _ H (Same.refl H) (by simp only [Rep]) trivial⟩
    | true =>
      obtain ⟨ks, rd, rfl⟩ := h1
      exact .inr ⟨a, kvs.length, rfl, .inr ⟨ks, rd, by rw [← hl, List.length_map]⟩, k _ H (Same.refl H) (by simp only [Rep]) trivial⟩
  · cases e
    simp only [RepB, Rep] at rx
    obtain ⟨a, o, rfl, h1⟩ := rx
    exact .inl ⟨_, _, rfl, .inl ⟨_, .inl (.inr ⟨o, h1⟩), by rw [List.length_map]⟩, k _ H (Same.refl H) (by simp only [Rep]) trivial⟩

/-! ### abs, min, max of two numbers; int, bool -/
def absD : D → Option D
  | .int i => some (.int (if i < 0 then -i else i))
  | _ => none
theorem absD_ok {mg} : RcOk mg (fun xs H Q => ∃ i, xs = [.int i] ∧ Q (.int (if i < 0 then -i else i)) H) (op1 absD) := rc1 fun P H x d v Q fr rx e k => by
  cases x <;> simp only [absD] at e <;> first | (cases e; done) | skip
  cases e
  simp only [RepB] at rx
  subst rx
  exact ⟨_, rfl, k _ H (Same.refl H) (by simp only [Rep]) trivial⟩
def max2D : D → D → Option D
  | .int i, .int j => some (.int (if j > i then j else i))
  | _, _ => none
def min2D : D → D → Option D
  | .int i, .int j => some (.int (if j < i then j else i))
  | _, _ => none
theorem max2D_ok {mg} : RcOk mg (fun xs H Q => ∃ i j, xs = [.int i, .int j] ∧ Q (.int (if j > i then j else i)) H) (op2 max2D) := rc2 fun P H x y d v w Q fr rx ry e k => by
  cases x <;> cases y <;> simp only [max2D] at e <;> first | (cases e; done) | skip
  cases e
  simp only [RepB] at rx ry
  subst rx ry
  exact ⟨_, _, rfl, k _ H (Same.refl H) (by simp only [Rep]) trivial⟩
theorem min2D_ok {mg} : RcOk mg (fun xs H Q => ∃ i j, xs = [.int i, .int j] ∧ Q (.int (if j < i then j else i)) H) (op2 min2D) := rc2 fun P H x y d v w Q fr rx ry e k => by
  cases x <;> cases y <;> simp only [min2D] at e <;> first | (cases e; done) | skip
  cases e
  simp only [RepB] at rx ry
  subst rx ry
  exact ⟨_, _, rfl, k _ H (Same.refl H) (by simp only [Rep]) trivial⟩
def int1D : D → Option D
  | .int i => some (.int i)
  | .bl b => some (.int (if b then 1 else 0))
  | _ => none
def bool1D : D → Option D
  | .int i => some (.bl (i != 0))
  | .bl b => some (.bl b)
  | _ => none
theorem int1D_ok {mg} : RcOk mg (fun xs H Q => (∃ i, xs = [.int i] ∧ Q (.int i) H) ∨ ∃ k, xs = [.bl k] ∧ Q (.int (if k then 1 else 0)) H) (op1 int1D) := rc1 fun P H x d v Q fr rx e k => by
  cases x <;> simp only [int1D] at e <;> first | (cases e; done) | skip
  · cases e
    simp only [RepB] at rx
    subst rx
    exact .inr ⟨_, rfl, k _ H (Same.refl H) (by simp only [Rep]) trivial⟩
  · cases e
    simp only [RepB] at rx
    subst rx
    exact .inl ⟨_, rfl, k _ H (Same.refl H) (by simp only [Rep]) trivial⟩
theorem bool1D_ok {mg} : RcOk mg (fun xs H Q => (∃ i, xs = [.int i] ∧ Q (.bl (i != 0)) H) ∨ ∃ k, xs = [.bl k] ∧ Q (.bl k) H) (op1 bool1D) := rc1 fun P H x d v Q fr rx e k => by
  cases x <;> simp only [bool1D] at e <;> first | (cases e; done) | skip
  · cases e
    simp only [RepB] at rx
    subst rx
    exact .inr ⟨_, rfl, k _ H (Same.refl H) (by simp only [Rep]) trivial⟩
  · cases e
    simp only [RepB] at rx
    subst rx
    exact .inl ⟨_, rfl, k _ H (Same.refl H) (by simp only [Rep]) trivial⟩

/-! ### list, tuple -/
def listD : D → Option D
  | .lst xs => some (.lst xs)
  | .tup xs => some (.lst xs)
  | _ => none
def tupleD : D → Option D
  | .lst xs => some (.tup xs)
  | .tup xs => some (.tup xs)
  | _ => none
theorem listD_ok {mg K} : RcOk mg (fun xs H Q => ∃ p ys, xs = [.ref p] ∧ (SqL K H p ys ∨ SqT K H p ys) ∧ ∀ l, H l = none → Q (.ref l) (upd H l (.lst ys))) (op1 listD) := rc1 fun P H x d v Q fr rx e k => by
  cases x <;> simp only [listD] at e <;> first | (cases e; done) | skip
  · cases e
    obtain ⟨a, vs, rfl, h1, h2⟩ := rx.tup
    exact ⟨a, vs, rfl, .inr (SqT.of h1), fun p hp => k _ _ (same_new hp) (rep_newL fr hp h2) (topNew_ref hp)⟩
  · cases e
    obtain ⟨a, vs, rfl, h1, h2⟩ := rx.lst
    exact ⟨a, vs, rfl, .inl (SqL.of h1), fun p hp => k _ _ (same_new hp) (rep_newL fr hp h2) (topNew_ref hp)⟩
theorem tupleD_ok {mg K} : RcOk mg (fun xs H Q => ∃ p ys, xs = [.ref p] ∧ ((SqL K H p ys ∧ ∀ l, H l = none → Q (.ref l) (upd H l (.tup ys))) ∨ (SqT K H p ys ∧ Q (.ref p) H))) (op1 tupleD) := rc1 fun P H x d v Q fr rx e k => by
  cases x <;> simp only [tupleD] at e <;> first | (cases e; done) | skip
  · cases e
    obtain ⟨a, vs, rfl, h1, h2⟩ := rx.tup
    exact ⟨a, vs, rfl, .inr ⟨SqT.of h1, k _ H (Same.refl H) (by simp only [Rep]; exact ⟨a, vs, rfl, h1, h2⟩) trivial⟩⟩
  · cases e
    obtain ⟨a, vs, rfl, h1, h2⟩ := rx.lst
    exact ⟨a, vs, rfl, .inl ⟨SqL.of h1, fun p hp => k _ _ (same_new hp) (rep_newT hp h2) trivial⟩⟩

/-! ### any, all, sum -/
def blsD : List D → Option (List Bool)
  | [] => some []
  | .bl b :: xs => (blsD xs).map (b :: ·)
  | _ :: _ => none
def intsD : List D → Option (List Int)
  | [] => some []
  | .int b :: xs => (intsD xs).map (b :: ·)
  | _ :: _ => none
def anyD : D → Option D
  | .lst xs => (blsD xs).map fun bs => .bl (bs.any id)
  | _ => none
def allD : D → Option D
  | .lst xs => (blsD xs).map fun bs => .bl (bs.all id)
  | _ => none
def sumD : D → Option D
  | .lst xs => (intsD xs).map fun ns => .int ns.sum
  | _ => none
theorem RepL.bls {P : Addr → Prop} {H : Hp} : ∀ {ds : List D} {bs : List Bool} {vs : List V}, blsD ds = some bs → RepL P H ds vs → vs = bs.map V.bl
  | [], bs, vs, e, h => by simp only [blsD] at e; cases e; simp only [RepL] at h; subst h; rfl
  | d :: ds, bs, vs, e, h => by
    cases d <;> simp only [blsD] at e <;> first | (cases e; done) | skip
    obtain ⟨bs', e1, rfl⟩ := Option.map_eq_some_iff.mp e
    simp only [RepL, Rep] at h
    obtain ⟨v, r, rfl, rfl, h2⟩ := h
    rw [RepL.bls e1 h2]; rfl
theorem RepL.ints {P : Addr → Prop} {H : Hp} : ∀ {ds : List D} {bs : List Int} {vs : List V}, intsD ds = some bs → RepL P H ds vs → vs = bs.map V.int
  | [], bs, vs, e, h => by simp only [intsD] at e; cases e; simp only [RepL] at h; subst h; rfl
  | d :: ds, bs, vs, e, h => by
    cases d <;> simp only [intsD] at e <;> first | (cases e; done) | skip
    obtain ⟨bs', e1, rfl⟩ := Option.map_eq_some_iff.mp e
    simp only [RepL, Rep] at h
    obtain ⟨v, r, rfl, rfl, h2⟩ := h
    rw [RepL.ints e1 h2]; rfl
theorem anyD_ok {mg K} : RcOk mg (rAny K) (op1 anyD) := rc1 fun P H x d v Q fr rx e k => by
  cases x <;> simp only [anyD] at e <;> first | (cases e; done) | skip
  obtain ⟨bs, e1, rfl⟩ := Option.map_eq_some_iff.mp e
  obtain ⟨a, vs, rfl, h1, h2⟩ := rx.lst
  have := h2.bls e1
  subst this
  exact ⟨a, bs, rfl, SqL.of h1, k _ H (Same.refl H) (by simp only [Rep]) trivial⟩
theorem allD_ok {mg K} : RcOk mg (rAll K) (op1 allD) := rc1 fun P H x d v Q fr rx e k => by
  cases x <;> simp only [allD] at e <;> first | (cases e; done) | skip
  obtain ⟨bs, e1, rfl⟩ := Option.map_eq_some_iff.mp e
  obtain ⟨a, vs, rfl, h1, h2⟩ := rx.lst
  have := h2.bls e1
  subst this
  exact ⟨a, bs, rfl, SqL.of h1, k _ H (Same.refl H) (by simp only [Rep]) trivial⟩
theorem sumD_ok {mg K} : RcOk mg (rSum K) (op1 sumD) := rc1 fun P H x d v Q fr rx e k => by
  cases x <;> simp only [sumD] at e <;> first | (cases e; done) | skip
  obtain ⟨bs, e1, rfl⟩ := Option.map_eq_some_iff.mp e
  obtain ⟨a, vs, rfl, h1, h2⟩ := rx.lst
  have := h2.ints e1
  subst this
  exact ⟨a, bs, rfl, SqL.of h1, k _ H (Same.refl H) (by simp only [Rep]) trivial⟩

/-! ### in -/
def memD (x : D) (xs : List D) : Bool := xs.any fun y => eqv y x
def inB : D → D → Option Bool
  | .str a, .str b => match a.cps.toList with
    | [c] => some (decide (c ∈ b.cps.toList))
    | _ => none
  | x, .lst xs => if pd 64 x && xs.all (pd 64) then some (memD x xs) else none
  | x, .tup xs => if pd 64 x && xs.all (pd 64) then some (memD x xs) else none
  | x, .dic t kvs => (dget t kvs x).map fun o => o.isSome
  | _, _ => none
def inD (x y : D) : Option D := (inB x y).map .bl
def notInD (x y : D) : Option D := (inB x y).map fun b => .bl (!b)
theorem any_toP (x : D) : ∀ xs : List D, ((toPs xs).any fun y => PyData.eqv y (toP x)) = memD x xs := by
  intro xs
  rw [toPs_map, List.any_map]
  rfl
theorem one_cps {a : Str} {c : Nat} (h : a.cps.toList = [c]) : a = ⟨#[c]⟩ := by
  cases a with
  | mk cs => simp only at h; rw [← Array.toList_inj.mp (show cs.toList = #[c].toList from h)]
section
variable {X : Cx} {ks : Ks} {F : Fn} {pos : Pos}
/-- by data: in a list, a tuple -/
def rInP (K : PySem.W.Frag) (neg : Bool) : R2 := fun x y H Q => ∃ (d : PyData) (ds : List PyData), Dp K H x d ∧ (Dp K H y (.list ds) ∨ Dp K H y (.tuple ds)) ∧ d.plain = true ∧ PyData.plainAll ds = true ∧ d.depth ≤ 64 ∧ Q (.bl (if neg then !(ds.any fun z => PyData.eqv z d) else ds.any fun z => PyData.eqv z d)) H
theorem room_in1 {a b : Nat} (hu : X.A.units + 65 < cLine) (h : b ≤ 64) : X.A.units + 1 + min a b < cLine := by
  have : min a b ≤ b := Nat.min_le_right _ _
  omega
theorem op_inP (hu : X.A.units + 65 < cLine) : OpR X (compareOp .In) (rInP X.K false) := by
  intro pins s σ H x y v u Q I rx ry h
  obtain ⟨d, ds, hd, he, p1, p2, dd, q⟩ := h
  obtain ⟨as, r1⟩ := Dp.reads I d x v hd rx
  rcases he with he | he
  · obtain ⟨bs, r2⟩ := Dp.reads I _ y u he ry
    exact PySem.SeqAt.in_list_data r2 r1 p2 p1 (room_in1 hu dd) ⟨.bl _, H, I, rfl, q⟩
  · obtain ⟨bs, r2⟩ := Dp.reads I _ y u he ry
    exact PySem.SeqAt.in_tuple_data r2 r1 p2 p1 (room_in1 hu dd) ⟨.bl _, H, I, rfl, q⟩
theorem op_notInP (hu : X.A.units + 65 < cLine) : OpR X (compareOp .NotIn) (rInP X.K true) := by
  intro pins s σ H x y v u Q I rx ry h
  obtain ⟨d, ds, hd, he, p1, p2, dd, q⟩ := h
  obtain ⟨as, r1⟩ := Dp.reads I d x v hd rx
  rcases he with he | he
  · obtain ⟨bs, r2⟩ := Dp.reads I _ y u he ry
    exact PySem.SeqAt.notIn_list_data r2 r1 p2 p1 (room_in1 hu dd) ⟨.bl _, H, I, rfl, q⟩
  · obtain ⟨bs, r2⟩ := Dp.reads I _ y u he ry
    exact PySem.SeqAt.notIn_tuple_data r2 r1 p2 p1 (room_in1 hu dd) ⟨.bl _, H, I, rfl, q⟩
abbrev rInS' (neg : Bool) : R2 := fun x y H Q => ∃ (c : Nat) (z : Str), x = .str ⟨#[c]⟩ ∧ y = .str z ∧ Q (.bl (if neg then !decide (c ∈ z.cps.toList) else decide (c ∈ z.cps.toList))) H
theorem dps_of {K : PySem.W.Frag} {P : Addr → Prop} {H : Hp} {ds : List D} {vs : List V} (h : RepL P H ds vs) (hp : ds.all (pd 64) = true) : DpAll K H vs (toPs ds) ∧ PyData.plainAll (toPs ds) = true :=
  ⟨RepL.dp ds vs h ⟨64, hp⟩, (pds_ok (pd_ok 64) hp).1⟩
/-- the two parts of in: by sign or data; by a dict -/
theorem in_seq {neg : Bool} {x y : D} {b : Bool} {P : Addr → Prop} {H : Hp} {v w : V} {Q : VK} (hnd : ∀ t kvs, y ≠ .dic t kvs) (e : inB x y = some b) (r1 : RepB X.mg P H x v) (r2 : RepB X.mg P H y w)
    (k : ∀ z, z = V.bl (if neg then !b else b) → Q z H) : rInS' neg v w H Q ∨ rInP X.K neg v w H Q := by
  unfold inB at e
  split at e
  · split at e
    · rename_i c hc
      cases e
      simp only [RepB] at r1 r2
      subst r1 r2
      exact .inl ⟨c, _, by rw [one_cps hc], rfl, k _ rfl⟩
    · cases e
  · split at e
    · rename_i c
      cases e
      rw [Bool.and_eq_true] at c
      obtain ⟨a, vs, rfl, h1, h2⟩ := r2.lst
      have q := dps_of (K := X.K) h2 c.2
      refine .inr ⟨toP x, _, r1.dp c.1, .inl (.lst (SqL.of h1) q.1), (pd_ok _ _ c.1).1, q.2, (pd_ok _ _ c.1).2, ?_⟩
      rw [any_toP]
      exact k _ rfl
    · cases e
  · split at e
    · rename_i c
      cases e
      rw [Bool.and_eq_true] at c
      obtain ⟨a, vs, rfl, h1, h2⟩ := r2.tup
      have q := dps_of (K := X.K) h2 c.2
      refine .inr ⟨toP x, _, r1.dp c.1, .inr (.tup (SqT.of h1) q.1), (pd_ok _ _ c.1).1, q.2, (pd_ok _ _ c.1).2, ?_⟩
      rw [any_toP]
      exact k _ rfl
    · cases e
  · rename_i t kvs
    exact absurd rfl (hnd t kvs)
  · cases e
def isDic : D → Bool
  | .dic _ _ => true
  | _ => false
theorem isDic_ne {y : D} (h : isDic y = false) : ∀ t kvs, y ≠ .dic t kvs := fun t kvs e => by subst e; cases h
theorem isDic_eq {y : D} (h : isDic y = true) : ∃ t kvs, y = .dic t kvs := by
  cases y <;> first | exact ⟨_, _, rfl⟩ | cases h
theorem evN_in {a b : Expr} {f g : SE} (hu : X.A.units + 65 < cLine) (hm : behindInMarks .In b = false) (ha : EvP X ks F a f) (hb : EvP X ks F b g) : EvN X ks F (.Compare a [.In] [b] pos) (cB inD f g) := by
  obtain ⟨ta, pa, qa⟩ := ha.ex
  obtain ⟨tb, pb, qb⟩ := hb.ex
  refine ⟨_, pe_or2 (pe_cmpR (op_in_sign.or (op_inP hu)) pa pb hm) (pe_cmp (pc_din (by omega) pa pb) hm), fun σ H P ρ Q d fr er ev k => ?_⟩
  obtain ⟨x, e1, ev1⟩ := Option.bind_eq_some_iff.mp ev
  obtain ⟨y, e2, ev2⟩ := Option.bind_eq_some_iff.mp ev1
  obtain ⟨c, e3, rfl⟩ := Option.map_eq_some_iff.mp ev2
  cases hy : isDic y with
  | false =>
    refine .inl (qa σ H P ρ _ x fr er e1 fun v H1 s1 r1 => ?_)
    refine qb σ H1 P ρ _ y (fr.same s1) (er.same s1) e2 fun w H2 s2 r2 => ?_
    exact in_seq (X := X) (neg := false) (isDic_ne hy) e3 (r1.same s2) r2 fun z hz => k z H2 (s1.trans s2) ⟨by subst hz; simp [Rep], trivial⟩
  | true =>
    obtain ⟨t, kvs, rfl⟩ := isDic_eq hy
    simp only [inB] at e3
    obtain ⟨o, e4, rfl⟩ := Option.map_eq_some_iff.mp e3
    refine .inr (qa σ H P ρ _ x fr er e1 fun v H1 s1 r1 => ?_)
    refine qb σ H1 P ρ _ _ (fr.same s1) (er.same s1) e2 fun w H2 s2 r2 => ?_
    obtain ⟨q, ov, rfl, g, hov⟩ := dget_ok r2 (r1.same s2) e4
    refine ⟨q, ov, rfl, g, k _ H2 (s1.trans s2) ⟨?_, trivial⟩⟩
    cases o with
    | none => rw [show ov = none from hov]; simp only [Rep]; rfl
    | some d => obtain ⟨u, rfl, _⟩ := hov; simp only [Rep]; rfl
theorem evT_in {a b : Expr} {f g : SE} (hu : X.A.units + 65 < cLine) (hm : behindInMarks .In b = false) (ha : EvP X ks F a f) (hb : EvP X ks F b g) : EvT X ks F (.Compare a [.In] [b] pos) (cBT inD f g) := by
  obtain ⟨ta, pa, qa⟩ := ha.ex
  obtain ⟨tb, pb, qb⟩ := hb.ex
  refine ⟨fun σ H Q => tTest (tOp (fun x y H Q => _ ∨ _) ta tb) σ H Q ∨ tB (tDIn ta tb) σ H Q, ⟨fun pins s σ H Q I q => q.elim ((pt_cmpR (op_in_sign.or (op_inP hu)) pa pb hm).run pins s σ H Q I) ((pt_cmp (pc_din (by omega) pa pb) hm).run pins s σ H Q I)⟩, fun σ H P ρ Q c' fr er ev k => ?_⟩
  obtain ⟨d, e0, ev0⟩ := Option.bind_eq_some_iff.mp ev
  obtain ⟨x, e1, ev1⟩ := Option.bind_eq_some_iff.mp e0
  obtain ⟨y, e2, ev2⟩ := Option.bind_eq_some_iff.mp ev1
  obtain ⟨c, e3, rfl⟩ := Option.map_eq_some_iff.mp ev2
  cases ev0
  cases hy : isDic y with
  | false =>
    refine .inl (qa σ H P ρ _ x fr er e1 fun v H1 s1 r1 => ?_)
    refine qb σ H1 P ρ _ y (fr.same s1) (er.same s1) e2 fun w H2 s2 r2 => ?_
    exact in_seq (X := X) (neg := false) (Q := fun x H' => ∃ k, x = V.bl k ∧ Q k H') (isDic_ne hy) e3 (r1.same s2) r2 fun z hz => ⟨c', by subst hz; rfl, k H2 (s1.trans s2)⟩
  | true =>
    obtain ⟨t, kvs, rfl⟩ := isDic_eq hy
    simp only [inB] at e3
    obtain ⟨o, e4, rfl⟩ := Option.map_eq_some_iff.mp e3
    refine .inr (qa σ H P ρ _ x fr er e1 fun v H1 s1 r1 => ?_)
    refine qb σ H1 P ρ _ _ (fr.same s1) (er.same s1) e2 fun w H2 s2 r2 => ?_
    obtain ⟨q, ov, rfl, g, hov⟩ := dget_ok r2 (r1.same s2) e4
    refine ⟨q, ov, rfl, g, o.isSome, ?_, k H2 (s1.trans s2)⟩
    cases o with
    | none => rw [show ov = none from hov]; rfl
    | some d => obtain ⟨u, rfl, _⟩ := hov; rfl
theorem evN_notIn {a b : Expr} {f g : SE} (hu : X.A.units + 65 < cLine) (hm : behindInMarks .NotIn b = false) (ha : EvP X ks F a f) (hb : EvP X ks F b g) : EvN X ks F (.Compare a [.NotIn] [b] pos) (cB notInD f g) := by
  obtain ⟨ta, pa, qa⟩ := ha.ex
  obtain ⟨tb, pb, qb⟩ := hb.ex
  refine ⟨_, pe_or2 (pe_cmpR (op_notIn_sign.or (op_notInP hu)) pa pb hm) (pe_cmp (pc_dnotin (by omega) pa pb) hm), fun σ H P ρ Q d fr er ev k => ?_⟩
  obtain ⟨x, e1, ev1⟩ := Option.bind_eq_some_iff.mp ev
  obtain ⟨y, e2, ev2⟩ := Option.bind_eq_some_iff.mp ev1
  obtain ⟨c, e3, rfl⟩ := Option.map_eq_some_iff.mp ev2
  cases hy : isDic y with
  | false =>
    refine .inl (qa σ H P ρ _ x fr er e1 fun v H1 s1 r1 => ?_)
    refine qb σ H1 P ρ _ y (fr.same s1) (er.same s1) e2 fun w H2 s2 r2 => ?_
    exact in_seq (X := X) (neg := true) (isDic_ne hy) e3 (r1.same s2) r2 fun z hz => k z H2 (s1.trans s2) ⟨by subst hz; simp [Rep], trivial⟩
  | true =>
    obtain ⟨t, kvs, rfl⟩ := isDic_eq hy
    simp only [inB] at e3
    obtain ⟨o, e4, rfl⟩ := Option.map_eq_some_iff.mp e3
    refine .inr (qa σ H P ρ _ x fr er e1 fun v H1 s1 r1 => ?_)
    refine qb σ H1 P ρ _ _ (fr.same s1) (er.same s1) e2 fun w H2 s2 r2 => ?_
    obtain ⟨q, ov, rfl, g, hov⟩ := dget_ok r2 (r1.same s2) e4
    refine ⟨q, ov, rfl, g, k _ H2 (s1.trans s2) ⟨?_, trivial⟩⟩
    cases o with
    | none => rw [show ov = none from hov]; simp only [Rep]; rfl
    | some d => obtain ⟨u, rfl, _⟩ := hov; simp only [Rep]; rfl
theorem evT_notIn {a b : Expr} {f g : SE} (hu : X.A.units + 65 < cLine) (hm : behindInMarks .NotIn b = false) (ha : EvP X ks F a f) (hb : EvP X ks F b g) : EvT X ks F (.Compare a [.NotIn] [b] pos) (cBT notInD f g) := by
  obtain ⟨ta, pa, qa⟩ := ha.ex
  obtain ⟨tb, pb, qb⟩ := hb.ex
  refine ⟨fun σ H Q => tTest (tOp (fun x y H Q => _ ∨ _) ta tb) σ H Q ∨ tB (tDNotIn ta tb) σ H Q, ⟨fun pins s σ H Q I q => q.elim ((pt_cmpR (op_notIn_sign.or (op_notInP hu)) pa pb hm).run pins s σ H Q I) ((pt_cmp (pc_dnotin (by omega) pa pb) hm).run pins s σ H Q I)⟩, fun σ H P ρ Q c' fr er ev k => ?_⟩
  obtain ⟨d, e0, ev0⟩ := Option.bind_eq_some_iff.mp ev
  obtain ⟨x, e1, ev1⟩ := Option.bind_eq_some_iff.mp e0
  obtain ⟨y, e2, ev2⟩ := Option.bind_eq_some_iff.mp ev1
  obtain ⟨c, e3, rfl⟩ := Option.map_eq_some_iff.mp ev2
  cases ev0
  cases hy : isDic y with
  | false =>
    refine .inl (qa σ H P ρ _ x fr er e1 fun v H1 s1 r1 => ?_)
    refine qb σ H1 P ρ _ y (fr.same s1) (er.same s1) e2 fun w H2 s2 r2 => ?_
    exact in_seq (X := X) (neg := true) (Q := fun x H' => ∃ k, x = V.bl k ∧ Q k H') (isDic_ne hy) e3 (r1.same s2) r2 fun z hz => ⟨!c, by subst hz; rfl, k H2 (s1.trans s2)⟩
  | true =>
    obtain ⟨t, kvs, rfl⟩ := isDic_eq hy
    simp only [inB] at e3
    obtain ⟨o, e4, rfl⟩ := Option.map_eq_some_iff.mp e3
    refine .inr (qa σ H P ρ _ x fr er e1 fun v H1 s1 r1 => ?_)
    refine qb σ H1 P ρ _ _ (fr.same s1) (er.same s1) e2 fun w H2 s2 r2 => ?_
    obtain ⟨q, ov, rfl, g, hov⟩ := dget_ok r2 (r1.same s2) e4
    refine ⟨q, ov, rfl, g, !o.isSome, ?_, k H2 (s1.trans s2)⟩
    cases o with
    | none => rw [show ov = none from hov]; rfl
    | some d => obtain ⟨u, rfl, _⟩ := hov; rfl

/-! ### isinstance -/
def tyN : D → Option String
  | .non => some "NoneType"
  | .bl _ => some "bool"
  | .int _ => some "int"
  | .str _ => some "str"
  | .tup _ => some "tuple"
  | .lst _ => some "list"
  | _ => none
def isTy (t T : String) : Bool := t == T || (t == "bool" && T == "int")
def tyKnown (T : String) : Bool := T == "int" || T == "bool" || T == "str" || T == "tuple" || T == "list"
theorem kit_known {K : PySem.W.Frag} {d : D} {t T : String} (h : tyN d = some t) (hT : tyKnown T = true) : PySem.W.kitOne K (.type t) (.type T) = some (isTy t T) := by
  have q : ∀ a ∈ ["NoneType", "bool", "int", "str", "tuple", "list"], ∀ b ∈ ["int", "bool", "str", "tuple", "list"], kitB a b = some (isTy a b) := by decide +kernel
  refine kit_ty (q t ?_ T ?_)
  · cases d <;> simp only [tyN] at h <;> cases h <;> decide
  · unfold tyKnown at hT
    simp only [Bool.or_eq_true, beq_iff_eq] at hT
    rcases hT with (((rfl | rfl) | rfl) | rfl) | rfl <;> decide
theorem tyX_of {mg : Str → Option Value} {K : PySem.W.Frag} {P : Addr → Prop} {H : Hp} {d : D} {v : V} {t : String} (r : RepB mg P H d v) (h : tyN d = some t) : TyX K H v (.type t) := by
  cases d <;> simp only [tyN] at h <;> cases h <;> simp only [RepB, Rep] at r
  · subst r; exact .base .non
  · subst r; exact .base (.bl _)
  · subst r; exact .base (.int _)
  · subst r; exact .base (.str _)
  · obtain ⟨a, vs, rfl, h1, _⟩ := r; exact .base (.tup h1)
  · obtain ⟨a, vs, rfl, h1, _⟩ := r; exact .base (.lst h1)
def isiD (Ts : List String) (d : D) : Option D := (tyN d).map fun t => .bl (Ts.any fun T => isTy t T)
theorem evN_isi {p p2 : Pos} {T : String} {e : Expr} {f : SE} (hg : Gl X "isinstance") (hm : X.mg "isinstance" = none) (hT : tyKnown T = true) (hgT : Gl X (Str.ofString T)) (hmT : X.mg (Str.ofString T) = none) (hbT : bootBuiltins (Str.ofString T) = some (.type T)) (hnT : (Str.ofString T) ≠ "__name__") (hdT : ((Str.ofString T) == ("__debug__" : Str)) = false)
    (hs : noStar e = true) (h : EvP X ks F e f) : EvN X ks F (.Call (.Name "isinstance" p) [e, .Name (Str.ofString T) p2] [] pos) (cU (isiD [T]) f) := by
  obtain ⟨t, pt, q⟩ := h.ex
  refine ⟨_, pe_callB call_isi hg hm boot_isinstance (pa_cons pt (pa_cons (pe_bltn (v := .ty T) hgT hmT hbT rfl hnT hdT) pa_nil) (starEach_cons (noStar_ne hs))) (by decide) (by decide) (starEach_cons (noStar_ne hs)) (by rfl), fun σ H P ρ Q d fr er ev k => ?_⟩
  obtain ⟨x, e1, ev1⟩ := Option.bind_eq_some_iff.mp ev
  obtain ⟨ty, e2, rfl⟩ := Option.map_eq_some_iff.mp ev1
  refine q σ H P ρ _ x fr er e1 fun v H1 s1 r1 => ?_
  refine ⟨v, .ty T, .type ty, .type T, isTy ty T, rfl, .ty T, tyX_of r1 e2, kit_known e2 hT, ?_⟩
  exact k _ H1 s1 ⟨by simp [Rep], trivial⟩
theorem evN_isi2 {p p2 p3 p4 : Pos} {kt} {T U : String} {e : Expr} {f : SE} (hg : Gl X "isinstance") (hm : X.mg "isinstance" = none)
    (hT : tyKnown T = true) (hgT : Gl X (Str.ofString T)) (hmT : X.mg (Str.ofString T) = none) (hbT : bootBuiltins (Str.ofString T) = some (.type T)) (hnT : (Str.ofString T) ≠ "__name__") (hdT : ((Str.ofString T) == ("__debug__" : Str)) = false)
    (hU : tyKnown U = true) (hgU : Gl X (Str.ofString U)) (hmU : X.mg (Str.ofString U) = none) (hbU : bootBuiltins (Str.ofString U) = some (.type U)) (hnU : (Str.ofString U) ≠ "__name__") (hdU : ((Str.ofString U) == ("__debug__" : Str)) = false)
    (hs : noStar e = true) (h : EvP X ks F e f) : EvN X ks F (.Call (.Name "isinstance" p) [e, .Tuple [.Name (Str.ofString T) p2, .Name (Str.ofString U) p3] kt p4] [] pos) (cU (isiD [T, U]) f) := by
  obtain ⟨t, pt, q⟩ := h.ex
  refine ⟨_, pe_callB call_isiT hg hm boot_isinstance (pa_cons pt (pa_cons (pe_tup (pa_cons (pe_bltn (v := .ty T) hgT hmT hbT rfl hnT hdT) (pa_cons (pe_bltn (v := .ty U) hgU hmU hbU rfl hnU hdU) pa_nil))) pa_nil) (starEach_cons (noStar_ne hs))) (by decide) (by decide) (starEach_cons (noStar_ne hs)) (by rfl), fun σ H P ρ Q d fr er ev k => ?_⟩
  obtain ⟨x, e1, ev1⟩ := Option.bind_eq_some_iff.mp ev
  obtain ⟨ty, e2, rfl⟩ := Option.map_eq_some_iff.mp ev1
  refine q σ H P ρ _ x fr er e1 fun v H1 s1 r1 => ?_
  refine ⟨by show 2 ≤ sizeLine; decide, fun tp hp => ?_⟩
  refine ⟨v, tp, [.ty T, .ty U], .type ty, [.type T, .type U], [T, U].any fun T => isTy ty T, rfl, upd_same, .cons (.ty T) (.cons (.ty U) .nil), tyX_of (r1.same (same_new hp)) e2, ?_, ?_⟩
  · unfold PySem.W.kitAny
    rw [kit_known e2 hT]
    cases hh : isTy ty T with
    | true => simp [hh]
    | false =>
      simp only [List.any_cons, List.any_nil, hh, Bool.false_or, Bool.or_false]
      unfold PySem.W.kitAny
      rw [kit_known e2 hU]
      cases isTy ty U <;> rfl
  · exact k _ _ (s1.trans (same_new hp)) ⟨by simp only [Rep], trivial⟩
end
end RE
/-! RE7a: what enumerate and zip walk: lists, tuples, texts, in any mix. -/
namespace RE
open PySem PySem.Spec PyProof.Rows L2

/-- a walked thing: a list or a tuple at a place, or a text -/
inductive Sk where
  | l (a : Addr) | t (a : Addr) | s (z : Str)
def SkAt (H : Hp) : Sk → List V → Prop
  | .l a, xs => Rd H a (.lst xs)
  | .t a, xs => H a = some (.tup xs)
  | .s z, xs => xs = z.cps.toList.map fun c => .str ⟨#[c]⟩
def SkIt (it : Addr) : Sk → Nat → Heap → Prop
  | .l a, i, h => h.IsListIter it a i
  | .t a, i, h => h.IsTupleIter it a i
  | .s z, i, h => ∃ t, h.IsStrIter it (strIterType z) z t i
theorem Rd.lst_inj {H : Hp} {a : Addr} {xs ys : List V} (h : Rd H a (.lst xs)) (g : Rd H a (.lst ys)) : xs = ys := by
  rcases h with h | ⟨o, h⟩ <;> rcases g with g | ⟨o', g⟩ <;> (rw [h] at g; cases g; try rfl)
theorem SkAt.inj {H : Hp} {k : Sk} {xs ys : List V} (h : SkAt H k xs) (g : SkAt H k ys) : xs = ys := by
  cases k with
  | l a => exact Rd.lst_inj h g
  | t a => have h : H a = _ := h; rw [show H a = _ from g] at h; cases h; rfl
  | s z => rw [show xs = _ from h, show ys = _ from g]
theorem SkIt.obj {it : Addr} {k : Sk} {i : Nat} {h : Heap} (x : SkIt it k i h) : ∃ o, h.get? it = some o ∧ ∀ v, o.data ≠ .cell v := by
  cases k with
  | l a => obtain ⟨o, e, c, d⟩ := x; exact ⟨o, e, fun v z => by rw [d] at z; cases z⟩
  | t a => obtain ⟨o, e, c, d⟩ := x; exact ⟨o, e, fun v z => by rw [d] at z; cases z⟩
  | s z => obtain ⟨t, o, e, c, d⟩ := x; exact ⟨o, e, fun v z => by rw [d] at z; cases z⟩
theorem SkIt.keep {it : Addr} {k : Sk} {i : Nat} {h h' : Heap} (x : SkIt it k i h) (q : ∀ o, h.get? it = some o → h'.get? it = some o) : SkIt it k i h' := by
  cases k with
  | l a => exact Heap.IsListIter.at x q
  | t a => exact Heap.IsTupleIter.at x q
  | s z => obtain ⟨t, o, e, c, d⟩ := x; exact ⟨t, o, q o e, c, d⟩
/-- what the walked thing's iterator draws, here and now -/
theorem sk_draws {X : Cx} {pins : List (Addr × Obj)} {σ : L2.St} {H : Hp} {s : Shared} {k : Sk} {xs : List V} {it : Addr} {i : Nat} (I : Inv X pins σ H s) (hc : X.calm = true) (hk : SkAt H k xs) (hi : SkIt it k i s.heap) (hn : H it = none) :
    ∃ (fp : List Addr) (P : Nat → Value → Prop) (St : Nat → Heap → Prop), Draws X.prog X.w X.A.in1 it fp xs.length P St ∧ St i s.heap ∧ (∀ j u, P j u → ∃ x, xs[j]? = some x ∧ RelV x u) ∧ (∀ j h, St j h → SkIt it k j h) ∧ it ∈ fp ∧ ∀ b ∈ fp, b = it ∨ H b ≠ none := by
  have hh : X.A.in1.handled = none := I.ok.hd hc
  cases k with
  | l a =>
    obtain ⟨its, rv, p, hz⟩ := I.list (show SqL X.K H a xs from .inl hk)
    have hne : a ≠ it := fun e => by
      rcases hk with q | ⟨o, q⟩ <;> rw [e, hn] at q <;> cases q
    have hl : its.toArray.size = xs.length := by rw [List.size_toArray]; exact rv.length.symm
    refine ⟨[it, a], (fun j u => its.toArray[j]? = some u), (fun j h => h.IsListIter it a j ∧ h.IsList a its.toArray), by rw [← hl]; exact Draws.list hh it a hne its.toArray, ⟨hi, p.isList⟩, fun j u e => ?_, fun j h x => x.1, by simp, fun b hb => ?_⟩
    · have e : its[j]? = some u := by simpa using e
      cases q : xs[j]? with
      | none => rw [rv.none_of q] at e; cases e
      | some x =>
        obtain ⟨u', e1, r⟩ := rv.get q
        rw [e] at e1; cases e1
        exact ⟨x, rfl, r⟩
    · rcases List.mem_cons.mp hb with e | hb
      · exact .inl e
      · rw [List.mem_singleton.mp hb]
        exact .inr (by rcases hk with q | ⟨o, q⟩ <;> (rw [q]; simp))
  | t a =>
    have hk : H a = some (.tup xs) := hk
    obtain ⟨its, rv, p, hz⟩ := I.tuple (SqT.of hk)
    have hne : a ≠ it := fun e => by rw [e, hn] at hk; cases hk
    have hl : its.toArray.size = xs.length := by rw [List.size_toArray]; exact rv.length.symm
    refine ⟨[it, a], (fun j u => its.toArray[j]? = some u), (fun j h => h.IsTupleIter it a j ∧ h.IsTuple a its.toArray), by rw [← hl]; exact Draws.tuple hh it a hne its.toArray, ⟨hi, p⟩, fun j u e => ?_, fun j h x => x.1, by simp, fun b hb => ?_⟩
    · have e : its[j]? = some u := by simpa using e
      cases q : xs[j]? with
      | none => rw [rv.none_of q] at e; cases e
      | some x =>
        obtain ⟨u', e1, r⟩ := rv.get q
        rw [e] at e1; cases e1
        exact ⟨x, rfl, r⟩
    · rcases List.mem_cons.mp hb with e | hb
      · exact .inl e
      · rw [List.mem_singleton.mp hb]
        exact .inr (by rw [hk]; simp)
  | s z =>
    obtain ⟨t, hi⟩ := hi
    have hk : xs = z.cps.toList.map fun c => .str ⟨#[c]⟩ := hk
    have hl : z.cps.size = xs.length := by rw [hk, List.length_map]; simp
    refine ⟨[it], (fun j u => ∃ c v, z.cps[j]? = some c ∧ u = .str ⟨#[c]⟩ v), (fun j h => h.IsStrIter it (strIterType z) z t j), by rw [← hl]; exact Draws.text hh it z t, hi, fun j u e => ?_, fun j h x => ⟨t, x⟩, by simp, fun b hb => .inl (List.mem_singleton.mp hb)⟩
    obtain ⟨c, u', e1, e2⟩ := e
    refine ⟨.str ⟨#[c]⟩, ?_, by rw [e2]; exact ⟨u', rfl⟩⟩
    rw [hk, List.getElem?_map, Array.getElem?_toList, e1]; rfl

section
variable {P : Program} {w : World} {K : PySem.W.Frag} {elts : List Expr} {kk : Nat} {tpos : Pos}
/-- enumerate: at each turn a new pair -/
def Iteg (k : Sk) : It :=
  ⟨fun i H => ∃ xs x, SkAt H k xs ∧ xs[i]? = some x, fun i H v H' => ∃ T x, v = .ref T ∧ H T = none ∧ H' = upd H T (.tup [.int (i : Nat), x]) ∧ ∀ xs, SkAt H k xs → xs[i]? = some x, fun i H => ∃ xs, SkAt H k xs ∧ xs.length = i⟩
theorem turn_enumG (k : Sk) (e it : Addr) : Turn P w K (.Tuple elts kk tpos) (Iteg k) [e, it] e (fun i h => (∃ old, IsEnum h e it ((i : Nat) : Int) old) ∧ SkIt it k i h ∧ e ≠ it) where
  mem := List.mem_cons_self
  obj := fun i h st b hb => by
    obtain ⟨⟨old, q⟩, q2, _⟩ := st
    simp only [List.mem_cons, List.not_mem_nil, or_false] at hb
    rcases hb with rfl | rfl
    · exact ⟨_, q, (fun v z => nomatch z)⟩
    · exact q2.obj
  keep := fun i h h' st g => ⟨let ⟨old, q⟩ := st.1; ⟨old, g e (by simp) _ q⟩, st.2.1.keep fun o q => g it (by simp) o q, st.2.2⟩
  item := by
    intro X hP hw hK hc i pins s σ H E I hf st hg
    subst hP hw hK
    obtain ⟨⟨old, he⟩, hi, hne⟩ := st
    obtain ⟨xs, x, hx, hxi⟩ := hg
    have hlt : i < xs.length := (List.getElem?_eq_some_iff.mp hxi).1
    have nit := (hf it (by simp)).1
    have ne := (hf e (by simp)).1
    obtain ⟨fp, Pd, Sd, dr, sd, hp, hsk, hm, hfp⟩ := sk_draws I hc hx hi nit
    have hef : e ∉ fp := fun z => (hfp e z).elim (fun q => hne q) fun q => q ne
    have szE : e < s.heap.objs.size := Heap.lt_size he
    have szI : it < s.heap.objs.size := by obtain ⟨o, q, _⟩ := hi.obj; exact Heap.lt_size q
    refine wpAny_pyNext_enum_itemD dr he sd hlt hne hef fun u h1 tk hu hout sd' hT hsz hkp => ⟨_, rfl, ?_⟩
    refine wpAny_letOwnedTupleGo_enum (s := { s with heap := h1, toks := tk + 1 }) hout fun h2 he2 sb => ?_
    obtain ⟨y, hy, ry⟩ := hp i u hu
    rw [hxi] at hy; cases hy
    have hT2 := (sb.2 s.heap.objs.size (Nat.ne_of_gt szE)).trans hT
    have okT : ObjOk X.prog X.w (upd H s.heap.objs.size (.tup [.int (i : Nat), x])) h2 s.heap.objs.size (.tup [.int (i : Nat), x]) :=
      ⟨(by decide : 2 ≤ sizeLine), [.int i tk, u], .cons ⟨_, rfl⟩ (.cons ry .nil), _, hT2, rfl, _, rfl⟩
    have J : Inv X pins σ (upd H s.heap.objs.size (.tup [.int (i : Nat), x])) { s with heap := h2, toks := tk + 1 } := by
      refine I.turnedNew (ch := [e, it]) (fun b o hb q => ?_) hf (Nat.le_refl _) okT
      simp only [List.mem_cons, List.not_mem_nil, or_false, not_or] at hb
      exact (sb.2 b hb.1).trans (hkp b o hb.1 hb.2 q)
    refine ⟨.ref s.heap.objs.size, _, J, rfl, ⟨_, x, rfl, I.hok.fresh (Nat.le_refl _), rfl, fun ys hy => by rw [hy.inj hx]; exact hxi⟩, ⟨⟨u, by rw [show ((i + 1 : Nat) : Int) = (i : Int) + 1 from rfl]; exact he2⟩, (hsk _ _ sd').keep fun o q => (sb.2 it (Ne.symm hne)).trans q, hne⟩, fun b hb => ?_⟩
    have lt : b < s.heap.objs.size := by
      simp only [List.mem_cons, List.not_mem_nil, or_false] at hb
      rcases hb with rfl | rfl <;> assumption
    rw [upd_ne (Nat.ne_of_lt lt)]
    exact (hf b hb).1
  done := by
    intro X hP hw hK hc i pins s σ H E I hf st hg
    subst hP hw hK
    obtain ⟨⟨old, he⟩, hi, hne⟩ := st
    obtain ⟨xs, hx, rfl⟩ := hg
    obtain ⟨f0, f1, f2, f3, f4, f5⟩ := hf it (by simp)
    obtain ⟨fp, Pd, Sd, dr, sd, _⟩ := sk_draws I hc hx hi f0
    exact wpAny_pyNext_enum_endD dr he sd fun h1 eb => ⟨rfl, I.turned (t' := s.toks) (fun b o hb q => eb b o hb q) f0 f1 f3 f4 f5⟩
  self := fun A i s Q E st h => wpAny_pyIter_enum st.1.choose_spec h

/-- zip of two -/
def Itzg (k1 k2 : Sk) : It :=
  ⟨fun i H => ∃ xs ys x y, SkAt H k1 xs ∧ SkAt H k2 ys ∧ xs[i]? = some x ∧ ys[i]? = some y,
   fun i H v H' => ∃ T x y, v = .ref T ∧ H T = none ∧ H' = upd H T (.tup [x, y]) ∧ (∀ xs, SkAt H k1 xs → xs[i]? = some x) ∧ ∀ ys, SkAt H k2 ys → ys[i]? = some y,
   fun i H => ∃ xs ys, SkAt H k1 xs ∧ SkAt H k2 ys ∧ i = min xs.length ys.length⟩
/-- zip's own five cells stand apart -/
structure Ap5 (z TI TO i1 i2 : Addr) : Prop where
  a : TI ≠ z
  b : TO ≠ z
  c : TI ≠ TO
  d : TI ≠ i1
  e : TI ≠ i2
  f : z ≠ i1
  g : z ≠ i2
  h : TO ≠ i1
  i : TO ≠ i2
  j : i1 ≠ i2
theorem Ap5.sep {z TI TO i1 i2 : Addr} {fp1 fp2 : List Addr} {H : Hp} (D : Ap5 z TI TO i1 i2) (h1 : i1 ∈ fp1) (h2 : i2 ∈ fp2) (g1 : ∀ b ∈ fp1, b = i1 ∨ H b ≠ none) (g2 : ∀ b ∈ fp2, b = i2 ∨ H b ≠ none)
    (nz : H z = none) (nO : H TO = none) (n1 : H i1 = none) (n2 : H i2 = none) : ZipSep2 z TI TO i1 i2 fp1 fp2 where
  TIz := D.a
  TOz := D.b
  TITO := D.c
  TIi1 := D.d
  mem1 := h1
  zf1 := fun q => (g1 z q).elim D.f fun r => r nz
  Tf1 := fun q => (g1 TO q).elim D.h fun r => r nO
  TIi2 := D.e
  mem2 := h2
  zf2 := fun q => (g2 z q).elim D.g fun r => r nz
  Tf2 := fun q => (g2 TO q).elim D.i fun r => r nO
  sep1_2 := fun q => (g2 i1 q).elim D.j fun r => r n1
  sep2_1 := fun q => (g1 i2 q).elim (Ne.symm D.j) fun r => r n2
theorem turn_zipG {z TI TO i1 i2 : Addr} (k1 k2 : Sk) (D : Ap5 z TI TO i1 i2) : Turn P w K (.Tuple elts kk tpos) (Itzg k1 k2) [z, TI, TO, i1, i2] z
    (fun i h => IsZip h z TI TO .none ∧ IsTupOf2 h TI (.ref i1) (.ref i2) ∧ (∃ a1 a2, IsTupOf2 h TO a1 a2) ∧ SkIt i1 k1 i h ∧ SkIt i2 k2 i h) where
  mem := List.mem_cons_self
  obj := fun i h st b hb => by
    obtain ⟨q1, q2, ⟨a1, a2, q3⟩, q4, q5⟩ := st
    simp only [List.mem_cons, List.not_mem_nil, or_false] at hb
    rcases hb with rfl | rfl | rfl | rfl | rfl
    · exact ⟨_, q1, (fun v z => nomatch z)⟩
    · exact ⟨_, q2, (fun v z => nomatch z)⟩
    · exact ⟨_, q3, (fun v z => nomatch z)⟩
    · exact q4.obj
    · exact q5.obj
  keep := fun i h h' st g => ⟨g z (by simp) _ st.1, g TI (by simp) _ st.2.1, let ⟨a1, a2, q⟩ := st.2.2.1; ⟨a1, a2, g TO (by simp) _ q⟩, st.2.2.2.1.keep fun o q => g i1 (by simp) o q, st.2.2.2.2.keep fun o q => g i2 (by simp) o q⟩
  item := by
    intro X hP hw hK hc i pins s σ H E I hf st hg
    subst hP hw hK
    obtain ⟨hz, hTI, ⟨a1, a2, hTO⟩, hi1, hi2⟩ := st
    obtain ⟨xs, ys, x, y, hx, hy, hxi, hyi⟩ := hg
    have n1 := (hf i1 (by simp)).1
    have n2 := (hf i2 (by simp)).1
    have nz := (hf z (by simp)).1
    have nO := (hf TO (by simp)).1
    obtain ⟨fp1, P1, S1, d1, s1, p1, sk1, m1, g1⟩ := sk_draws I hc hx hi1 n1
    obtain ⟨fp2, P2, S2, d2, s2, p2, sk2, m2, g2⟩ := sk_draws I hc hy hi2 n2
    have sep := D.sep m1 m2 g1 g2 nz nO n1 n2
    have szz : z < s.heap.objs.size := Heap.lt_size hz
    refine wpAny_pyNext_zipD2_item sep d1 d2 hz hTI hTO s1 s2 (List.getElem?_eq_some_iff.mp hxi).1 (List.getElem?_eq_some_iff.mp hyi).1 fun u1 u2 h1 tk hu1 hu2 hz1 hTO1 s1' s2' hT hsz hkp => ⟨_, rfl, ?_⟩
    refine wpAny_letOwnedTupleGo_zip (s := { s with heap := h1, toks := tk }) hz1 fun h2 hz2 sb => ?_
    obtain ⟨x', e1, r1⟩ := p1 i u1 hu1
    rw [hxi] at e1; cases e1
    obtain ⟨y', e2, r2⟩ := p2 i u2 hu2
    rw [hyi] at e2; cases e2
    have hT2 := (sb.2 s.heap.objs.size (Nat.ne_of_gt szz)).trans hT
    have okT : ObjOk X.prog X.w (upd H s.heap.objs.size (.tup [x, y])) h2 s.heap.objs.size (.tup [x, y]) :=
      ⟨(by decide : 2 ≤ sizeLine), [u1, u2], .cons r1 (.cons r2 .nil), _, hT2, rfl, _, rfl⟩
    have J : Inv X pins σ (upd H s.heap.objs.size (.tup [x, y])) { s with heap := h2, toks := tk } := by
      refine I.turnedNew (ch := [z, TI, TO, i1, i2]) (fun b o hb q => ?_) hf (Nat.le_refl _) okT
      simp only [List.mem_cons, List.not_mem_nil, or_false, not_or] at hb
      exact (sb.2 b hb.1).trans (hkp b o hb.1 hb.2.2.1 hb.2.2.2.1 hb.2.2.2.2 q)
    refine ⟨.ref s.heap.objs.size, _, J, rfl, ⟨_, x, y, rfl, I.hok.fresh (Nat.le_refl _), rfl, fun zs hq => by rw [hq.inj hx]; exact hxi, fun zs hq => by rw [hq.inj hy]; exact hyi⟩, ⟨hz2, ?_, ⟨u1, u2, ?_⟩, ?_, ?_⟩, fun b hb => ?_⟩
    · exact (sb.2 TI D.a).trans (hkp TI _ D.a D.c D.d D.e hTI)
    · exact (sb.2 TO D.b).trans hTO1
    · exact (sk1 _ _ s1').keep fun o q => (sb.2 i1 (Ne.symm D.f)).trans q
    · exact (sk2 _ _ s2').keep fun o q => (sb.2 i2 (Ne.symm D.g)).trans q
    · have lt : b < s.heap.objs.size := by
        simp only [List.mem_cons, List.not_mem_nil, or_false] at hb
        rcases hb with rfl | rfl | rfl | rfl | rfl
        · exact szz
        · exact Heap.lt_size hTI
        · exact Heap.lt_size hTO
        · obtain ⟨o, q, _⟩ := hi1.obj; exact Heap.lt_size q
        · obtain ⟨o, q, _⟩ := hi2.obj; exact Heap.lt_size q
      rw [upd_ne (Nat.ne_of_lt lt)]
      exact (hf b hb).1
  done := by
    intro X hP hw hK hc i pins s σ H E I hf st hg
    subst hP hw hK
    obtain ⟨hz, hTI, ⟨a1, a2, hTO⟩, hi1, hi2⟩ := st
    obtain ⟨xs, ys, hx, hy, hmin⟩ := hg
    have n1 := (hf i1 (by simp)).1
    have n2 := (hf i2 (by simp)).1
    obtain ⟨fp1, P1, S1, d1, s1, p1, sk1, m1, g1⟩ := sk_draws I hc hx hi1 n1
    obtain ⟨fp2, P2, S2, d2, s2, p2, sk2, m2, g2⟩ := sk_draws I hc hy hi2 n2
    have sep := D.sep m1 m2 g1 g2 (hf z (by simp)).1 (hf TO (by simp)).1 n1 n2
    refine wpAny_pyNext_zipD2_end sep d1 d2 hz hTI hTO s1 s2 (by omega) (by omega) (by omega) fun h1 tk hkp => ⟨rfl, ?_⟩
    refine I.turnedL (ch := [z, TI, TO, i1, i2]) (fun b o hb q => ?_) hf
    simp only [List.mem_cons, List.not_mem_nil, or_false, not_or] at hb
    exact hkp b o hb.1 hb.2.2.1 hb.2.2.2.1 hb.2.2.2.2 q
  self := fun A i s Q E st h => wpAny_pyIter_zip st.1 h
end
end RE
/-! RE7b: what a for or a comprehension walks, by trees. -/
namespace RE
open PySem PySem.Spec PyProof.Rows L2

/-- enumerate(v) of one argument, v by how its iterator begins -/
theorem meets_enum1 {v : Value} {o : Obj} {G : Heap → Prop} (B : Begins v o G) :
    Meets (Builtin.«enumerate.__new__» ⟨[.type "enumerate", v], []⟩) fun _ R s => G s.heap ∧
      R (.ok (.ret (.ref (s.heap.push o).objs.size))) { s with heap := (s.heap.push o).push { cls := .type "enumerate", data := .fields #[.none, .bool false, .ref s.heap.objs.size, rawInt 0, .none, .none] } } :=
  .of_wp fun prog w A R s h => by
    obtain ⟨hp, gens, dr, tk, os⟩ := s
    obtain ⟨g, r⟩ := h
    have hsub := sub_enumerate
    have it0 : ∀ {A' : Around} {E' : Value → Shared → Prop} {Q' : Value → Shared → Prop}, Q' (.ref hp.objs.size) ⟨hp.push o, gens, dr, tk, os⟩ → wpAny (model prog w) A' (pyIter v) Q' E' ⟨hp, gens, dr, tk, os⟩ := fun q => B.iter prog w _ _ ⟨hp, gens, dr, tk, os⟩ _ g q
    wp_walk using it0
    refine wpAny_stack_any fun st => ?_
    refine wpAny_pure ?_
    split
    · next c _ _ _ _ _ =>
      cases (c == Value.type "enumerate") <;>
        (wp_walk using it0
         exact ⟨_, rfl, r⟩)
    · wp_walk using it0
      exact ⟨_, rfl, r⟩
theorem call_enum1 {prog : Program} {w : World} {A : Around} {E : Value → Shared → Prop} {s : Shared} {v : Value} {o : Obj} {G : Heap → Prop} {Q : Value → Shared → Prop} (B : Begins v o G) (g : G s.heap)
    (h : ∀ h', IsEnum h' (s.heap.objs.size + 1) s.heap.objs.size 0 .none → h'.get? s.heap.objs.size = some o → (∀ b ob, s.heap.get? b = some ob → h'.get? b = some ob) → Q (.ref (s.heap.objs.size + 1)) { s with heap := h' }) :
    wpAny (model prog w) A (call (.type "enumerate") [v]) Q E s := by
  refine callType_new F.called_enumerate (by decide) (F.typeCall_enumerate_1 _) (F.newCall_enumerate_1 _) (fun ob => F.args_object_init_2 ob _) F.entry_enumerate_new (meets_enum1 B) ⟨g, ?_⟩
  have sz : (s.heap.push o).objs.size = s.heap.objs.size + 1 := Heap.size_push ..
  have e1 : IsEnum ((s.heap.push o).push { cls := .type "enumerate", data := .fields #[.none, .bool false, .ref s.heap.objs.size, rawInt 0, .none, .none] }) (s.heap.objs.size + 1) s.heap.objs.size 0 .none := by
    have q := Heap.get?_push_size (s.heap.push o) (o := { cls := .type "enumerate", data := .fields #[.none, .bool false, .ref s.heap.objs.size, rawInt 0, .none, .none] }) rfl
    rw [sz] at q
    exact q
  show _ ∧ _
  rw [sz]
  exact ⟨⟨_, e1, rfl⟩, h _ e1 (Heap.get?_push_of_some _ (Heap.get?_push_size _ B.free)) fun b ob q => Heap.get?_push_of_some _ (Heap.get?_push_of_some _ q)⟩

/-- the value of a walked thing -/
def skV : Sk → V
  | .l a => .ref a
  | .t a => .ref a
  | .s z => .str z
theorem sk_begins {X : Cx} {pins : List (Addr × Obj)} {σ : L2.St} {H : Hp} {s : Shared} {k : Sk} {xs : List V} {u : Value} (I : Inv X pins σ H s) (hk : SkAt H k xs) (r : RelV (skV k) u) :
    ∃ (o : Obj) (G : Heap → Prop), Begins u o G ∧ G s.heap ∧ ∀ it h, h.get? it = some o → SkIt it k 0 h := by
  cases k with
  | l a =>
    cases (show u = Value.ref a from r)
    obtain ⟨its, rv, p, _⟩ := I.list (show SqL X.K H a xs from .inl hk)
    exact ⟨_, _, begins_list a its.toArray, p.isList, fun it h e => ⟨_, e, rfl, rfl⟩⟩
  | t a =>
    cases (show u = Value.ref a from r)
    obtain ⟨its, rv, p, _⟩ := I.tuple (SqT.of hk)
    exact ⟨_, _, begins_tuple a its.toArray, p, fun it h e => ⟨_, e, rfl, rfl⟩⟩
  | s z =>
    obtain ⟨t, rfl⟩ := (show ∃ t, u = Value.str z t from r)
    exact ⟨_, _, begins_text z t, trivial, fun it h e => ⟨t, _, e, rfl, rfl⟩⟩
section
variable {X : Cx}
def iEnG (ta : TA) : TI := fun σ H R => ta σ H fun vs H1 => ∃ k xs, vs = [skV k] ∧ SkAt H1 k xs ∧ R (Iteg k) H1
theorem boot_enum' : bootBuiltins "enumerate" = some (.type "enumerate") := by decide +kernel
theorem pi_enumG {e : Expr} {ta : TA} {p pos tpos : Pos} {elts : List Expr} {kk : Nat} (hg : Gl X "enumerate") (hm : X.mg "enumerate" = none) (ha : PA X [e] ta) (hs : starEach [e] X.env = [(false, eval e X.env)]) :
    PI X (.Tuple elts kk tpos) (.Call (.Name "enumerate" p) [e] [] pos) (iEnG ta) := by
  refine ⟨fun pins s σ H R I h => ?_⟩
  refine Call_ (ld_blt I hg hm boot_enum' (PyProof.Rows.callWith_type1 (thn (ha.run pos pins s σ H _ I h) fun us s1 ⟨vs, H1, I1, r1, k, xs, ev, hk, q⟩ => ?_) hs rfl))
  subst ev
  obtain ⟨u, rfl, ru⟩ := vals1 r1
  obtain ⟨o, G, B, g, fin⟩ := sk_begins I1 hk ru
  refine call_enum1 B g fun h' he hi hkp => wpAny_pyIter_enum he ?_
  have J : Inv X pins σ H1 { s1 with heap := h' } := I1.kept (t' := s1.toks) hkp
  refine ⟨s1.heap.objs.size + 1, [s1.heap.objs.size + 1, s1.heap.objs.size], _, _, H1, rfl, J, turn_enumG k (s1.heap.objs.size + 1) s1.heap.objs.size, ⟨⟨.none, he⟩, fin _ _ hi, Nat.succ_ne_self _⟩, fun b hb => ?_, q⟩
  have le : s1.heap.objs.size ≤ b := by
    simp only [List.mem_cons, List.not_mem_nil, or_false] at hb
    rcases hb with rfl | rfl
    · exact Nat.le_succ _
    · exact Nat.le_refl _
  exact I1.fpOk le (I1.hok.fresh le)
def iZpG (ta : TA) : TI := fun σ H R => ta σ H fun vs H1 => ∃ k1 k2 xs ys, vs = [skV k1, skV k2] ∧ SkAt H1 k1 xs ∧ SkAt H1 k2 ys ∧ R (Itzg k1 k2) H1
theorem ap5 (N : Addr) : Ap5 (N + 4) (N + 2) (N + 3) N (N + 1) := by
  have h : ∀ {i j : Nat}, i ≠ j → (N : Nat) + i ≠ N + j := fun q e => q (Nat.add_left_cancel e)
  exact ⟨h (by decide), h (by decide), h (by decide), h (i := 2) (j := 0) (by decide), h (by decide), h (i := 4) (j := 0) (by decide), h (by decide), h (i := 3) (j := 0) (by decide), h (by decide), h (i := 0) (j := 1) (by decide)⟩
theorem pi_zipG {e e2 : Expr} {ta : TA} {p pos tpos : Pos} {elts : List Expr} {kk : Nat} (hg : Gl X "zip") (hm : X.mg "zip" = none) (ha : PA X [e, e2] ta) (hs : starEach [e, e2] X.env = (false, eval e X.env) :: starEach [e2] X.env) (hpl : (backTo pos (starEach [e2] X.env)).any (·.1) = false) :
    PI X (.Tuple elts kk tpos) (.Call (.Name "zip" p) [e, e2] [] pos) (iZpG ta) := by
  refine ⟨fun pins s σ H R I h => ?_⟩
  refine Call_ (ld_blt I hg hm PyProof.Rows.boot_zip (PyProof.Rows.callWith_type1 (thn (ha.run pos pins s σ H _ I h) fun us s1 ⟨vs, H1, I1, r1, k1, k2, xs, ys, ev, hk1, hk2, q⟩ => ?_) hs hpl))
  subst ev
  obtain ⟨u1, u2, rfl, r2, r3⟩ := vals2 r1
  obtain ⟨o1, G1, B1, g1, fin1⟩ := sk_begins I1 hk1 r2
  obtain ⟨o2, G2, B2, g2, fin2⟩ := sk_begins I1 hk2 r3
  refine zip_begins2 B1 B2 g1 g2 fun h' hz hTI hTO q1 q2 hsz hkp => wpAny_pyIter_zip hz ?_
  have J : Inv X pins σ H1 { s1 with heap := h' } := I1.kept (t' := s1.toks) hkp
  refine ⟨s1.heap.objs.size + 4, [s1.heap.objs.size + 4, s1.heap.objs.size + 2, s1.heap.objs.size + 3, s1.heap.objs.size, s1.heap.objs.size + 1], _, _, H1, rfl, J, turn_zipG k1 k2 (ap5 s1.heap.objs.size), ⟨hz, hTI, ⟨_, _, hTO⟩, fin1 _ _ q1, fin2 _ _ q2⟩, fun b hb => ?_, q⟩
  have le : s1.heap.objs.size ≤ b := by
    simp only [List.mem_cons, List.not_mem_nil, or_false] at hb
    rcases hb with rfl | rfl | rfl | rfl | rfl <;> first | exact Nat.le_add_right _ _ | exact Nat.le_refl _
  exact I1.fpOk le (I1.hok.fresh le)
end

/-! ### walks by trees -/
/-- what stood at H1 at the places that matter stands at H2: the allowed ones, those that never change, those at src -/
def Kept (P : Addr → Prop) (src : List Addr) (H1 H2 : Hp) : Prop := ∀ b o, H1 b = some o → (P b ∨ ¬ Chg (some o) ∨ b ∈ src) → H2 b = some o
theorem Kept.refl {P : Addr → Prop} {src : List Addr} {H : Hp} : Kept P src H H := fun _ _ e _ => e
theorem Kept.of {P : Addr → Prop} {src : List Addr} {H H' : Hp} (s : Same H H') : Kept P src H H' := fun b o e _ => s b o e
theorem HD.kept {t : Bool} {P : Addr → Prop} {src : List Addr} {H1 H2 : Hp} {a : Addr} {ps : List (D × V)} (k : Kept P src H1 H2) (h : HD t H1 a ps) (pa : P a) : HD t H2 a ps := by
  cases t <;> obtain ⟨ks, (r | ⟨o, r⟩), e⟩ := h
  · exact ⟨ks, .inl (k _ _ r (.inl pa)), e⟩
  · exact ⟨ks, .inr ⟨o, k _ _ r (.inl pa)⟩, e⟩
  · exact ⟨ks, .inl (k _ _ r (.inl pa)), e⟩
  · exact ⟨ks, .inr ⟨o, k _ _ r (.inl pa)⟩, e⟩
mutual
theorem Rep.kept {P : Addr → Prop} {src : List Addr} {H1 H2 : Hp} (k : Kept P src H1 H2) : ∀ (d : D) (v : V), Rep P H1 d v → Rep P H2 d v
  | .non, v, h => by simpa only [Rep] using h
  | .bl b, v, h => by simpa only [Rep] using h
  | .int i, v, h => by simpa only [Rep] using h
  | .str x, v, h => by simpa only [Rep] using h
  | .tup ds, v, h => by
    simp only [Rep] at h ⊢
    obtain ⟨a, vs, e, h1, h2⟩ := h
    exact ⟨a, vs, e, k _ _ h1 (.inr (.inl fun z => z)), RepL.kept k ds vs h2⟩
  | .lst ds, v, h => by
    simp only [Rep] at h ⊢
    obtain ⟨a, vs, e, h0, h1, h2⟩ := h
    exact ⟨a, vs, e, h0, k _ _ h1 (.inl h0), RepL.kept k ds vs h2⟩
  | .dic t kvs, v, h => by
    simp only [Rep] at h ⊢
    obtain ⟨a, ps, e, h0, h1, h2⟩ := h
    exact ⟨a, ps, e, h0, h1.kept k h0, RepKV.kept k kvs ps h2⟩
  | .scr ns, v, h => by
    simp only [Rep] at h ⊢
    obtain ⟨a, o, e, h1⟩ := h
    exact ⟨a, o, e, k _ _ h1 (.inr (.inl fun z => z))⟩
  | .fn f, v, h => by simp only [Rep] at h
theorem RepL.kept {P : Addr → Prop} {src : List Addr} {H1 H2 : Hp} (k : Kept P src H1 H2) : ∀ (ds : List D) (vs : List V), RepL P H1 ds vs → RepL P H2 ds vs
  | [], vs, h => by simpa only [RepL] using h
  | d :: ds, vs, h => by
    simp only [RepL] at h ⊢
    obtain ⟨v, r, e, h1, h2⟩ := h
    exact ⟨v, r, e, Rep.kept k d v h1, RepL.kept k ds r h2⟩
theorem RepKV.kept {P : Addr → Prop} {src : List Addr} {H1 H2 : Hp} (k : Kept P src H1 H2) : ∀ (kvs : List (D × D)) (ps : List (D × V)), RepKV P H1 kvs ps → RepKV P H2 kvs ps
  | [], ps, h => by simpa only [RepKV] using h
  | (q, d) :: kvs, ps, h => by
    simp only [RepKV] at h ⊢
    obtain ⟨v, r, e, h1, h2⟩ := h
    exact ⟨v, r, e, Rep.kept k d v h1, RepKV.kept k kvs r h2⟩
end
/-- J walks the trees ds, from H1 on, wherever the places that matter are kept -/
structure WalkD (P : Addr → Prop) (src : List Addr) (J : It) (ds : List D) (H1 : Hp) : Prop where
  there : ∀ a ∈ src, H1 a ≠ none
  goes : ∀ H2 i, Kept P src H1 H2 → i < ds.length → J.go i H2
  stops : ∀ H2, Kept P src H1 H2 → J.stop ds.length H2
  yields : ∀ H2 i x H3, Kept P src H1 H2 → i < ds.length → J.yld i H2 x H3 → Same H2 H3 ∧ ∃ d, ds[i]? = some d ∧ Rep P H3 d x
/-- lists and dicts -/
def isMut : D → Bool
  | .lst _ => true
  | .dic _ _ => true
  | _ => false
theorem RepB.mut {mg : Str → Option Value} {P : Addr → Prop} {H : Hp} {d : D} {a : Addr} (h : RepB mg P H d (.ref a)) (hf : ∀ g, d ≠ .fn g) (c : Chg (H a)) : isMut d = true := by
  cases d <;> simp only [RepB, Rep] at h <;> first | rfl | skip
  · cases h
  · cases h
  · cases h
  · cases h
  · obtain ⟨b, vs, e, h1, _⟩ := h; cases e; rw [h1] at c; exact c.elim
  · obtain ⟨b, o, e, h1⟩ := h; cases e; rw [h1] at c; exact c.elim
  · exact absurd rfl (hf _)
/-- a place where a list or dict that is looked at stands: allowed, or the slot of one that is not changed now -/
def Top (ks : Ks) (σ : L2.St) (ρ : RE.Env) (P : Addr → Prop) (a : Addr) : Prop := P a ∨ ∃ i d, (kd ks i = .L ∨ kd ks i = .B) ∧ σ[i]? = some (some (.ref a)) ∧ ρ[i]? = some (some d) ∧ isMut d = true
/-- e gives f, to be looked at, at a place that is not changed meanwhile -/
structure EvQ (X : Cx) (ks : Ks) (F : Fn) (e : Expr) (f : SE) : Prop where
  ex : ∃ t : TE, PE X e t ∧ ∀ σ H (P : Addr → Prop) (ρ : RE.Env) (Q : VK) (d : D), Fre P H → ER X.mg P ks H σ ρ → f F ρ = some d →
    (∀ v H', Same H H' → (RepB X.mg P H' d v ∧ ∀ a, v = .ref a → (∀ g, d ≠ .fn g) → Chg (H' a) → Top ks σ ρ P a) → Q v H') → t σ H Q
theorem EvQ.toP {X : Cx} {ks : Ks} {F : Fn} {e : Expr} {f : SE} (h : EvQ X ks F e f) : EvP X ks F e f :=
  let ⟨t, p, q⟩ := h.ex
  ⟨t, p, fun σ H P ρ Q d fr er ev k => q σ H P ρ Q d fr er ev fun v H' s r => k v H' s r.1⟩
theorem Rep.top {P : Addr → Prop} {H : Hp} {d : D} {a : Addr} (h : Rep P H d (.ref a)) (c : Chg (H a)) : P a := by
  cases d <;> simp only [Rep] at h
  · cases h
  · cases h
  · cases h
  · cases h
  · obtain ⟨b, vs, e, h1, _⟩ := h; cases e; rw [h1] at c; exact c.elim
  · obtain ⟨b, vs, e, h0, _⟩ := h; cases e; exact h0
  · obtain ⟨b, vs, e, h0, _⟩ := h; cases e; exact h0
  · obtain ⟨b, o, e, h1⟩ := h; cases e; rw [h1] at c; exact c.elim
theorem EvE.toQ {X : Cx} {ks : Ks} {F : Fn} {e : Expr} {f : SE} (h : EvE X ks F e f) : EvQ X ks F e f :=
  let ⟨t, p, q⟩ := h.ex
  ⟨t, p, fun σ H P ρ Q d fr er ev k => q σ H P ρ Q d fr er ev fun v H' s r => k v H' s ⟨r.toB, fun a e _ c => .inl (by subst e; exact Rep.top r c)⟩⟩
theorem evQ_var {X : Cx} {ks : Ks} {F : Fn} {pos : Pos} {i : Nat} {x : Str} (hN : X.N[i]? = some x) (hv : Vis X.env.scope x) (hk : kd ks i = .L ∨ kd ks i = .B) (hd : (x == ("__debug__" : Str)) = false) (hcd : (x == ("__classdict__" : Str)) = false) : EvQ X ks F (.Name x pos) (cV i) := by
  refine ⟨tVar i, pe_var hN hv hd hcd, fun σ H P ρ Q d fr er ev k => ?_⟩
  obtain ⟨v, e, r⟩ := er.2 i d (cV_some ev)
  exact ⟨v, e, k v H (Same.refl H) ⟨r.toB, fun a ea hf c => .inr ⟨i, d, hk, by rw [e, ea], cV_some ev, by subst ea; exact r.toB.mut hf c⟩⟩⟩
abbrev SL := Fn → RE.Env → Option (List D)
/-- iter gives the trees of f, one after another, to the target tg -/
structure EvI (X : Cx) (ks : Ks) (F : Fn) (tg iter : Expr) (f : SL) : Prop where
  ex : ∃ wi : TI, PI X tg iter wi ∧ ∀ σ H (P : Addr → Prop) (ρ : RE.Env) (R : It → Hp → Prop) (ds : List D), Fre P H → ER X.mg P ks H σ ρ → f F ρ = some ds →
    (∀ J H1 src, Same H H1 → (∀ P', (∀ a, H1 a ≠ none → P a → P' a) → WalkD P' src J ds H1) → (∀ a ∈ src, Top ks σ ρ P a) → R J H1) → wi σ H R

/-- the trees one walks over -/
def chD (s : Str) : List D := s.cps.toList.map fun c => .str ⟨#[c]⟩
def walkL : D → Option (List D)
  | .lst xs => some xs
  | .tup xs => some xs
  | .str s => some (chD s)
  | .scr ns => some (ns.map .int)
  | _ => none
theorem RepL.chars {P : Addr → Prop} {H : Hp} : ∀ cs : List Nat, RepL P H (cs.map fun c => .str ⟨#[c]⟩) (cs.map fun c => V.str ⟨#[c]⟩)
  | [] => by simp only [List.map_nil, RepL]
  | c :: cs => by
    simp only [List.map_cons, RepL]
    exact ⟨_, _, rfl, by simp only [Rep], RepL.chars cs⟩
theorem RepL.ofInts {P : Addr → Prop} {H : Hp} : ∀ ns : List Int, RepL P H (ns.map .int) (ns.map V.int)
  | [] => by simp only [List.map_nil, RepL]
  | c :: cs => by
    simp only [List.map_cons, RepL]
    exact ⟨_, _, rfl, by simp only [Rep], RepL.ofInts cs⟩
/-- a list, tuple or text as a walked thing -/
theorem sk_of {mg : Str → Option Value} {ks : Ks} {σ : L2.St} {ρ : RE.Env} {P : Addr → Prop} {H : Hp} {d : D} {v : V} {ds : List D} (r : RepB mg P H d v) (tp : ∀ a, v = .ref a → (∀ g, d ≠ .fn g) → Chg (H a) → Top ks σ ρ P a) (e : walkL d = some ds) :
    ∃ k vs src, v = skV k ∧ SkAt H k vs ∧ RepL P H ds vs ∧ (∀ a ∈ src, H a ≠ none) ∧ (∀ a ∈ src, Top ks σ ρ P a) ∧ ∀ P2 H2, Kept P2 src H H2 → SkAt H2 k vs := by
  cases d <;> simp only [walkL] at e <;> cases e
  · rename_i z
    simp only [RepB] at r
    exact ⟨.s z, _, [], r, rfl, RepL.chars _, by simp, by simp, fun _ _ _ => rfl⟩
  · obtain ⟨a, vs, rfl, h1, h2⟩ := r.tup
    exact ⟨.t a, vs, [], rfl, h1, h2, by simp, by simp, fun _ H2 k => k _ _ h1 (.inr (.inl fun z => z))⟩
  · obtain ⟨a, vs, rfl, h1, h2⟩ := r.lst
    refine ⟨.l a, vs, [a], rfl, .inl h1, h2, ?_, ?_, fun _ H2 k => .inl (k _ _ h1 (.inr (.inr (by simp))))⟩
    · intro b hb; rw [List.mem_singleton.mp hb, h1]; simp
    · intro b hb; rw [List.mem_singleton.mp hb]; exact tp a rfl (fun g q => nomatch q) (by rw [h1]; trivial)
  · simp only [RepB, Rep] at r
    obtain ⟨a, o, rfl, h1⟩ := r
    exact ⟨.l a, _, [], rfl, .inr ⟨o, h1⟩, RepL.ofInts _, by simp, by simp, fun _ H2 k => .inr ⟨o, k _ _ h1 (.inr (.inl fun z => z))⟩⟩
theorem rep_at {P : Addr → Prop} {H : Hp} {ds : List D} {vs : List V} {i : Nat} {x : V} (h : RepL P H ds vs) (e : vs[i]? = some x) : ∃ d, ds[i]? = some d ∧ Rep P H d x := by
  have hi : i < ds.length := by rw [← h.len]; exact (List.getElem?_eq_some_iff.mp e).1
  obtain ⟨v, e1, r⟩ := h.get (List.getElem?_eq_getElem hi)
  rw [e] at e1; cases e1
  exact ⟨_, List.getElem?_eq_getElem hi, r⟩
section
variable {X : Cx} {ks : Ks} {F : Fn} {pos : Pos} {tg : Expr}
theorem pi_or2 {iter : Expr} {a b : TI} (h : PI X tg iter a) (g : PI X tg iter b) : PI X tg iter (fun σ H R => a σ H R ∨ b σ H R) :=
  ⟨fun pins s σ H R I q => q.elim (h.run pins s σ H R I) (g.run pins s σ H R I)⟩
def cWalk (f : SE) : SL := fun F ρ => (f F ρ).bind walkL
theorem evI_of {e : Expr} {f : SE} (h : EvQ X ks F e f) : EvI X ks F tg e (cWalk f) := by
  obtain ⟨t, p, q⟩ := h.ex
  refine ⟨_, pi_or2 (pi_list p) (pi_or2 (pi_tup p) (pi_str p)), fun σ H P ρ R ds fr er ev k => ?_⟩
  obtain ⟨d, e1, ev1⟩ := Option.bind_eq_some_iff.mp ev
  cases d with
  | lst xs =>
    refine .inl (q σ H P ρ _ _ fr er e1 fun v H1 s1 ⟨r, tp⟩ => ?_)
    simp only [walkL] at ev1; cases ev1
    obtain ⟨a, vs, rfl, h1, h2⟩ := r.lst
    refine ⟨a, rfl, ⟨vs, SqL.of h1⟩, k _ H1 [a] s1 (fun P2 hp2 => ⟨by intro b hb; rw [List.mem_singleton.mp hb, h1]; simp, fun H2 i kp hi => ?_, fun H2 kp => ?_, fun H2 i x H3 kp hi y => ?_⟩) fun b hb => ?_⟩
    · have h3 := kp _ _ h1 (.inr (.inr (by simp)))
      have : i < vs.length := by rw [h2.len]; exact hi
      exact ⟨vs, vs[i], SqL.of h3, List.getElem?_eq_getElem this⟩
    · exact ⟨vs, SqL.of (kp _ _ h1 (.inr (.inr (by simp)))), by rw [h2.len]; exact Nat.le_refl _⟩
    · obtain ⟨rfl, y2⟩ := y
      exact ⟨Same.refl _, rep_at ((RepL.mono (Same.refl _) hp2 _ _ h2).kept kp) (y2 vs (SqL.of (kp _ _ h1 (.inr (.inr (by simp))))))⟩
    · rw [List.mem_singleton.mp hb]
      exact tp a rfl (fun g z => nomatch z) (by rw [h1]; trivial)
  | scr ns =>
    refine .inl (q σ H P ρ _ _ fr er e1 fun v H1 s1 ⟨r, tp⟩ => ?_)
    simp only [walkL] at ev1; cases ev1
    simp only [RepB, Rep] at r
    obtain ⟨a, o, rfl, h1⟩ := r
    have sq : ∀ {P} H2, Kept P [] H1 H2 → SqL X.K H2 a (ns.map V.int) := fun H2 kp => .inl (.inr ⟨o, kp _ _ h1 (.inr (.inl fun z => z))⟩)
    refine ⟨a, rfl, ⟨_, sq (P := P) H1 Kept.refl⟩, k _ H1 [] s1 (fun P2 hp2 => ⟨by simp, fun H2 i kp hi => ?_, fun H2 kp => ?_, fun H2 i x H3 kp hi y => ?_⟩) (by simp)⟩
    · have : i < (ns.map V.int).length := by simpa using hi
      exact ⟨_, _, sq H2 kp, List.getElem?_eq_getElem this⟩
    · exact ⟨_, sq H2 kp, by simp⟩
    · obtain ⟨rfl, y2⟩ := y
      exact ⟨Same.refl _, rep_at (RepL.ofInts ns) (y2 _ (sq _ kp))⟩
  | tup xs =>
    refine .inr (.inl (q σ H P ρ _ _ fr er e1 fun v H1 s1 ⟨r, tp⟩ => ?_))
    simp only [walkL] at ev1; cases ev1
    obtain ⟨a, vs, rfl, h1, h2⟩ := r.tup
    have sq : ∀ {P} H2, Kept P [] H1 H2 → SqT X.K H2 a vs := fun H2 kp => SqT.of (kp _ _ h1 (.inr (.inl fun z => z)))
    refine ⟨a, rfl, ⟨vs, SqT.of h1⟩, k _ H1 [] s1 (fun P2 hp2 => ⟨by simp, fun H2 i kp hi => ?_, fun H2 kp => ?_, fun H2 i x H3 kp hi y => ?_⟩) (by simp)⟩
    · have : i < vs.length := by rw [h2.len]; exact hi
      exact ⟨vs, vs[i], sq H2 kp, List.getElem?_eq_getElem this⟩
    · exact ⟨vs, sq H2 kp, by rw [h2.len]; exact Nat.le_refl _⟩
    · obtain ⟨rfl, y2⟩ := y
      exact ⟨Same.refl _, rep_at ((RepL.mono (Same.refl _) hp2 _ _ h2).kept kp) (y2 vs (sq _ kp))⟩
  | str z =>
    refine .inr (.inr (q σ H P ρ _ _ fr er e1 fun v H1 s1 ⟨r, tp⟩ => ?_))
    simp only [walkL] at ev1; cases ev1
    simp only [RepB] at r
    have ln : (chD z).length = z.cps.size := by unfold chD; rw [List.length_map, Array.length_toList]
    refine ⟨z, r, k _ H1 [] s1 (fun P2 hp2 => ⟨by simp, fun H2 i kp hi => ?_, fun H2 kp => ?_, fun H2 i x H3 kp hi y => ?_⟩) (by simp)⟩
    · show i < z.cps.size
      omega
    · show z.cps.size ≤ _
      omega
    · obtain ⟨rfl, c, hc, rfl⟩ := y
      refine ⟨Same.refl _, .str ⟨#[c]⟩, ?_, by simp only [Rep]⟩
      unfold chD
      rw [List.getElem?_map, Array.getElem?_toList, hc]; rfl
  | _ => cases ev1
/-! ### range -/
def rngL (lo : Int) (n : Nat) : List D := (List.range n).map fun i => .int (lo + (i : Nat))
def small62 (i : Int) : Bool := decide (-(2 ^ 62) ≤ i) && decide (i < 2 ^ 62)
def rng1D : D → Option (List D)
  | .int j => if small62 j then some (rngL 0 j.toNat) else none
  | _ => none
def rng2D : D → D → Option (List D)
  | .int i, .int j => if small62 i && small62 j then some (rngL i (j - i).toNat) else none
  | _, _ => none
def cRng1 (f : SE) : SL := fun F ρ => (f F ρ).bind rng1D
def cRng2 (f g : SE) : SL := fun F ρ => (f F ρ).bind fun x => (g F ρ).bind fun y => rng2D x y
theorem walk_rng {P : Addr → Prop} {H : Hp} {lo : Int} {n : Nat} : WalkD P [] (Itr lo n) (rngL lo n) H := by
  have ln : (rngL lo n).length = n := by simp [rngL]
  refine ⟨by simp, fun H2 i kp hi => ?_, fun H2 kp => ?_, fun H2 i x H3 kp hi y => ?_⟩
  · show i < n; omega
  · show n ≤ _; omega
  · obtain ⟨rfl, rfl⟩ := y
    refine ⟨Same.refl _, .int (lo + (i : Nat)), ?_, by simp only [Rep]⟩
    have : i < n := by omega
    simp [rngL, this]
theorem small62_of {i : Int} (h : small62 i = true) : -(2 ^ 62) ≤ i ∧ i < 2 ^ 62 := by
  unfold small62 at h
  rwa [Bool.and_eq_true, decide_eq_true_eq, decide_eq_true_eq] at h
theorem evI_range1 {a : Expr} {p : Pos} {f : SE} (hg : Gl X "range") (hm : X.mg "range" = none) (hs : noStar a = true) (ha : EvP X ks F a f) : EvI X ks F tg (.Call (.Name "range" p) [a] [] pos) (cRng1 f) := by
  obtain ⟨t, pt, q⟩ := ha.ex
  refine ⟨_, pi_range1 hg hm (pa_cons pt pa_nil (starEach_cons (noStar_ne hs))) (starEach_cons (noStar_ne hs)), fun σ H P ρ R ds fr er ev k => ?_⟩
  obtain ⟨x, e1, ev1⟩ := Option.bind_eq_some_iff.mp ev
  unfold rng1D at ev1
  split at ev1
  · split at ev1
    · rename_i c
      cases ev1
      refine q σ H P ρ _ _ fr er e1 fun v H1 s1 r1 => ?_
      simp only [RepB] at r1
      subst r1
      exact ⟨_, rfl, (small62_of c).1, (small62_of c).2, k _ H1 [] s1 (fun _ _ => walk_rng) (by simp)⟩
    · cases ev1
  · cases ev1
theorem evI_range2 {a b : Expr} {p : Pos} {f g : SE} (hg : Gl X "range") (hm : X.mg "range" = none) (hs : noStar a = true) (hs2 : noStar b = true) (ha : EvP X ks F a f) (hb : EvP X ks F b g) : EvI X ks F tg (.Call (.Name "range" p) [a, b] [] pos) (cRng2 f g) := by
  obtain ⟨t, pt, q⟩ := ha.ex
  obtain ⟨t', pt', q'⟩ := hb.ex
  refine ⟨_, pi_range2 hg hm (pa_cons pt (pa_cons pt' pa_nil (starEach_cons (noStar_ne hs2))) (starEach_cons (noStar_ne hs))) (by rw [starEach_cons (noStar_ne hs), starEach_cons (noStar_ne hs2)]; rfl) (starEach_cons (noStar_ne hs2)), fun σ H P ρ R ds fr er ev k => ?_⟩
  obtain ⟨x, e1, ev1⟩ := Option.bind_eq_some_iff.mp ev
  obtain ⟨y, e2, ev2⟩ := Option.bind_eq_some_iff.mp ev1
  unfold rng2D at ev2
  split at ev2
  · split at ev2
    · rename_i c
      cases ev2
      rw [Bool.and_eq_true] at c
      refine q σ H P ρ _ _ fr er e1 fun v H1 s1 r1 => ?_
      refine q' σ H1 P ρ _ _ (fr.same s1) (er.same s1) e2 fun w H2 s2 r2 => ?_
      simp only [RepB] at r1 r2
      subst r1 r2
      exact ⟨_, _, rfl, ⟨(small62_of c.1).1, (small62_of c.1).2, (small62_of c.2).1, (small62_of c.2).2⟩, k _ H2 [] (s1.trans s2) (fun _ _ => walk_rng) (by simp)⟩
    · cases ev2
  · cases ev2

/-! ### enumerate, zip -/
def enumL : Nat → List D → List D
  | _, [] => []
  | i, d :: ds => .tup [.int (i : Nat), d] :: enumL (i + 1) ds
def zipL : List D → List D → List D
  | x :: xs, y :: ys => .tup [x, y] :: zipL xs ys
  | _, _ => []
theorem enumL_len : ∀ (i : Nat) (ds : List D), (enumL i ds).length = ds.length
  | _, [] => rfl
  | i, d :: ds => by simp only [enumL, List.length_cons, enumL_len]
theorem enumL_get : ∀ (k i : Nat) (ds : List D) (d : D), ds[i]? = some d → (enumL k ds)[i]? = some (.tup [.int ((k + i : Nat) : Int), d])
  | _, _, [], _, h => by simp at h
  | k, 0, d0 :: ds, d, h => by simp at h; subst h; rfl
  | k, i + 1, d0 :: ds, d, h => by
    have := enumL_get (k + 1) i ds d (by simpa using h)
    simp only [enumL, List.getElem?_cons_succ]
    rw [this, show k + 1 + i = k + (i + 1) by omega]
theorem zipL_len : ∀ (xs ys : List D), (zipL xs ys).length = min xs.length ys.length
  | [], _ => by simp [zipL]
  | _ :: _, [] => by simp [zipL]
  | x :: xs, y :: ys => by simp only [zipL, List.length_cons, zipL_len xs ys]; omega
theorem zipL_get : ∀ (i : Nat) (xs ys : List D) (x y : D), xs[i]? = some x → ys[i]? = some y → (zipL xs ys)[i]? = some (.tup [x, y])
  | _, [], _, _, _, h, _ => by simp at h
  | _, _ :: _, [], _, _, _, h => by simp at h
  | 0, a :: xs, b :: ys, x, y, h, g => by simp at h g; subst h g; rfl
  | i + 1, a :: xs, b :: ys, x, y, h, g => by
    simp only [zipL, List.getElem?_cons_succ]
    exact zipL_get i xs ys x y (by simpa using h) (by simpa using g)
theorem rep_pair {P : Addr → Prop} {H : Hp} {T : Addr} {d e : D} {x y : V} (n : H T = none) (h : Rep P H d x) (g : Rep P H e y) : Rep P (upd H T (.tup [x, y])) (.tup [d, e]) (.ref T) := by
  simp only [Rep, RepL]
  exact ⟨T, _, rfl, upd_same, x, [y], rfl, h.same (same_new n), y, [], rfl, g.same (same_new n), rfl⟩
def cEnum (f : SE) : SL := fun F ρ => ((f F ρ).bind walkL).map (enumL 0)
def cZip (f g : SE) : SL := fun F ρ => ((f F ρ).bind walkL).bind fun xs => ((g F ρ).bind walkL).map (zipL xs)
theorem evI_enum {elts : List Expr} {kk : Nat} {tpos : Pos} {e : Expr} {f : SE} {p : Pos} (hg : Gl X "enumerate") (hm : X.mg "enumerate" = none) (hs : noStar e = true) (h : EvQ X ks F e f) : EvI X ks F (.Tuple elts kk tpos) (.Call (.Name "enumerate" p) [e] [] pos) (cEnum f) := by
  obtain ⟨t, pt, q⟩ := h.ex
  refine ⟨_, pi_enumG hg hm (pa_cons pt pa_nil (starEach_cons (noStar_ne hs))) (starEach_cons (noStar_ne hs)), fun σ H P ρ R ds fr er ev k => ?_⟩
  obtain ⟨xs, e0, rfl⟩ := Option.map_eq_some_iff.mp ev
  obtain ⟨d, e1, e2⟩ := Option.bind_eq_some_iff.mp e0
  refine q σ H P ρ _ _ fr er e1 fun v H1 s1 ⟨r, tp⟩ => ?_
  obtain ⟨sk, vs, src, rfl, ha, hr, hth, htop, hkp⟩ := sk_of r tp e2
  refine ⟨sk, vs, rfl, ha, k _ H1 src s1 (fun P2 hp2 => ⟨hth, fun H2 i kp hi => ?_, fun H2 kp => ?_, fun H2 i x H3 kp hi y => ?_⟩) htop⟩
  · rw [enumL_len] at hi
    have : i < vs.length := by rw [hr.len]; exact hi
    exact ⟨vs, vs[i], hkp P2 H2 kp, List.getElem?_eq_getElem this⟩
  · exact ⟨vs, hkp P2 H2 kp, by rw [enumL_len, hr.len]⟩
  · obtain ⟨T, x', rfl, nT, rfl, hx⟩ := y
    obtain ⟨d', hd', rd⟩ := rep_at ((RepL.mono (Same.refl _) hp2 _ _ hr).kept kp) (hx vs (hkp P2 H2 kp))
    refine ⟨same_new nT, _, enumL_get 0 i xs d' hd', ?_⟩
    rw [Nat.zero_add]
    exact rep_pair nT (by simp only [Rep]) rd
theorem evI_zip {elts : List Expr} {kk : Nat} {tpos : Pos} {e e2 : Expr} {f g : SE} {p : Pos} (hg : Gl X "zip") (hm : X.mg "zip" = none) (hs : noStar e = true) (hs2 : noStar e2 = true) (h : EvQ X ks F e f) (h' : EvQ X ks F e2 g) : EvI X ks F (.Tuple elts kk tpos) (.Call (.Name "zip" p) [e, e2] [] pos) (cZip f g) := by
  obtain ⟨t, pt, q⟩ := h.ex
  obtain ⟨t', pt', q'⟩ := h'.ex
  refine ⟨_, pi_zipG hg hm (pa_cons pt (pa_cons pt' pa_nil (starEach_cons (noStar_ne hs2))) (starEach_cons (noStar_ne hs))) (starEach_cons (noStar_ne hs)) (by rw [starEach_cons (noStar_ne hs2)]; rfl), fun σ H P ρ R ds fr er ev k => ?_⟩
  obtain ⟨xs, e0, ev1⟩ := Option.bind_eq_some_iff.mp ev
  obtain ⟨ys, e3, rfl⟩ := Option.map_eq_some_iff.mp ev1
  obtain ⟨d, e1, e4⟩ := Option.bind_eq_some_iff.mp e0
  obtain ⟨d', e5, e6⟩ := Option.bind_eq_some_iff.mp e3
  refine q σ H P ρ _ _ fr er e1 fun v H1 s1 ⟨r, tp⟩ => ?_
  refine q' σ H1 P ρ _ _ (fr.same s1) (er.same s1) e5 fun w H2 s2 ⟨r', tp'⟩ => ?_
  have tp2 : ∀ a, v = .ref a → (∀ g, d ≠ .fn g) → Chg (H2 a) → Top ks σ ρ P a := fun a ea hn c => by
    refine tp a ea hn ?_
    cases q0 : H1 a with
    | some o => rw [s2 a o q0] at c; exact c
    | none =>
      subst ea
      cases d <;> simp only [walkL] at e4 <;> first | (cases e4; done) | skip
      · simp only [RepB] at r; cases r
      · obtain ⟨b, vs, eb, hb, _⟩ := r.tup; cases eb; rw [q0] at hb; cases hb
      · obtain ⟨b, vs, eb, hb, _⟩ := r.lst; cases eb; rw [q0] at hb; cases hb
      · simp only [RepB, Rep] at r; obtain ⟨b, o, eb, hb⟩ := r; cases eb; rw [q0] at hb; cases hb
  obtain ⟨k1, vs, src, rfl, ha, hr, hth, htop, hkp⟩ := sk_of (r.same s2) tp2 e4
  obtain ⟨k2, ws, src', rfl, ha', hr', hth', htop', hkp'⟩ := sk_of r' tp' e6
  have kl : ∀ {P H3}, Kept P (src ++ src') H2 H3 → Kept P src H2 H3 := fun kp b o eb hb => kp b o eb (hb.imp_right fun z => z.imp_right fun m => List.mem_append_left _ m)
  have kr : ∀ {P H3}, Kept P (src ++ src') H2 H3 → Kept P src' H2 H3 := fun kp b o eb hb => kp b o eb (hb.imp_right fun z => z.imp_right fun m => List.mem_append_right _ m)
  refine ⟨k1, k2, vs, ws, rfl, ha, ha', k _ H2 (src ++ src') (s1.trans s2) (fun P2 hp2 => ⟨fun a m => (List.mem_append.mp m).elim (hth a) (hth' a), fun H3 i kp hi => ?_, fun H3 kp => ?_, fun H3 i x H4 kp hi y => ?_⟩) fun a m => (List.mem_append.mp m).elim (htop a) (htop' a)⟩
  · rw [zipL_len] at hi
    have h1 : i < vs.length := by rw [hr.len]; omega
    have h2 : i < ws.length := by rw [hr'.len]; omega
    exact ⟨vs, ws, vs[i], ws[i], hkp P2 H3 (kl kp), hkp' P2 H3 (kr kp), List.getElem?_eq_getElem h1, List.getElem?_eq_getElem h2⟩
  · exact ⟨vs, ws, hkp P2 H3 (kl kp), hkp' P2 H3 (kr kp), by rw [zipL_len, hr.len, hr'.len]⟩
  · obtain ⟨T, x', y', rfl, nT, rfl, hx, hy⟩ := y
    obtain ⟨a, e7, ra⟩ := rep_at ((RepL.mono (Same.refl _) hp2 _ _ hr).kept (kl kp)) (hx vs (hkp P2 H3 (kl kp)))
    obtain ⟨b, e8, rb⟩ := rep_at ((RepL.mono (Same.refl _) hp2 _ _ hr').kept (kr kp)) (hy ws (hkp' P2 H3 (kr kp)))
    exact ⟨same_new nT, _, zipL_get i xs ys a b e7 e8, rep_pair nT ra rb⟩
end
end RE
/-! RE8: targets, list comprehensions. -/
namespace RE
open PySem PySem.Spec PyProof.Rows L2

/-! ### the canonical readings -/
def tE (mg : Str → Option Value) (ks : Ks) (F : Fn) (f : SE) : TE := fun σ H Q => ∃ (P : Addr → Prop) (ρ : RE.Env) (d : D), Fre P H ∧ ER mg P ks H σ ρ ∧ f F ρ = some d ∧ ∀ v H', Same H H' → Rep P H' d v → Q v H'
theorem EvE.can {X : Cx} {ks : Ks} {F : Fn} {e : Expr} {f : SE} (h : EvE X ks F e f) : PE X e (tE X.mg ks F f) := by
  obtain ⟨t, p, q⟩ := h.ex
  exact ⟨fun pins s σ H Q I ⟨P, ρ, d, fr, er, ev, k⟩ => p.run pins s σ H Q I (q σ H P ρ Q d fr er ev k)⟩
def tT (mg : Str → Option Value) (ks : Ks) (F : Fn) (f : SB) : TT := fun σ H Q => ∃ (P : Addr → Prop) (ρ : RE.Env) (b : Bool), Fre P H ∧ ER mg P ks H σ ρ ∧ f F ρ = some b ∧ ∀ H', Same H H' → Q b H'
theorem EvT.can {X : Cx} {ks : Ks} {F : Fn} {e : Expr} {f : SB} (h : EvT X ks F e f) : PT X e (tT X.mg ks F f) := by
  obtain ⟨t, p, q⟩ := h.ex
  exact ⟨fun pins s σ H Q I ⟨P, ρ, d, fr, er, ev, k⟩ => p.run pins s σ H Q I (q σ H P ρ Q d fr er ev k)⟩

/-! ### targets -/
abbrev SG := D → RE.Env → Option RE.Env
def tG (mg : Str → Option Value) (ks : Ks) (is : List Nat) (asg : SG) : TG := fun v σ H Q => ∃ (P : Addr → Prop) (ρ ρ' : RE.Env) (d : D), Rep P H d v ∧ ER mg P ks H σ ρ ∧ asg d ρ = some ρ' ∧
  ∀ σ', ER mg P ks H σ' ρ' → σ'.length = σ.length → (∀ j, j ∉ is → σ'[j]? = σ[j]?) → Q σ' H
/-- assigning a tree to tg is asg, on the slots is -/
structure EvG (X : Cx) (ks : Ks) (tg : Expr) (is : List Nat) (asg : SG) : Prop where
  can : PG X tg (tG X.mg ks is asg)
abbrev SGs := List D → RE.Env → Option RE.Env
def tGs (mg : Str → Option Value) (ks : Ks) (is : List Nat) (asg : SGs) : TGs := fun vs σ H Q => ∃ (P : Addr → Prop) (ρ ρ' : RE.Env) (ds : List D), RepL P H ds vs ∧ ER mg P ks H σ ρ ∧ asg ds ρ = some ρ' ∧
  ∀ σ', ER mg P ks H σ' ρ' → σ'.length = σ.length → (∀ j, j ∉ is → σ'[j]? = σ[j]?) → Q σ' H
structure EvGs (X : Cx) (ks : Ks) (tgs : List Expr) (is : List Nat) (asg : SGs) : Prop where
  can : PGs X tgs (tGs X.mg ks is asg)
theorem PG.imp {X : Cx} {tg : Expr} {t u : TG} (h : PG X tg t) (g : ∀ v σ H Q, u v σ H Q → t v σ H Q) : PG X tg u := by
  obtain ⟨r⟩ := h
  exact ⟨fun pins s σ H v u Q I rv q => r pins s σ H v u Q I rv (g v σ H Q q)⟩
def gN (i : Nat) : SG := fun d ρ => some (ρ.set i (some d))
theorem ER.set {mg : Str → Option Value} {P : Addr → Prop} {ks : Ks} {H : Hp} {σ : L2.St} {ρ : RE.Env} {i : Nat} {d : D} {v : V} (h : ER mg P ks H σ ρ) (r : RepK mg P H (kd ks i) d v) : ER mg P ks H (σ.set i (some v)) (ρ.set i (some d)) := by
  refine ⟨by rw [List.length_set, List.length_set]; exact h.1, fun j e q => ?_⟩
  by_cases hj : i = j
  · subst hj
    have hi : i < ρ.length := by
      rw [← List.length_set (i := i) (a := some d)]
      exact (List.getElem?_eq_some_iff.mp q).1
    rw [List.getElem?_set_self hi] at q
    cases q
    exact ⟨v, List.getElem?_set_self (by rw [← h.1]; exact hi), r⟩
  · rw [List.getElem?_set_ne hj] at q
    obtain ⟨w, e1, r1⟩ := h.2 j e q
    exact ⟨w, by rw [List.getElem?_set_ne hj]; exact e1, r1⟩
theorem evG_name {X : Cx} {ks : Ks} {pos : Pos} {i : Nat} {x : Str} (hN : X.N.Nodup) (hi : X.N[i]? = some x) (hx : Loc X.env.scope x) (hk : kd ks i = .F) (hf : X.fn x = true ∨ X.env.scope.names.lookup x = some .local) : EvG X ks (.Name x pos) [i] (gN i) := by
  refine ⟨PG.imp (pg_name hN hi hx hf) fun v σ H Q ⟨P, ρ, ρ', d, r, er, e, k⟩ => ?_⟩
  cases e
  exact k _ (er.set (by rw [hk]; exact r)) List.length_set fun j hj => List.getElem?_set_ne (by simpa [eq_comm] using hj)
theorem PGs.imp {X : Cx} {tg : List Expr} {t u : TGs} (h : PGs X tg t) (g : ∀ v σ H Q, u v σ H Q → t v σ H Q) : PGs X tg u := by
  obtain ⟨r⟩ := h
  exact ⟨fun pins s σ H v u Q I rv q => r pins s σ H v u Q I rv (g v σ H Q q)⟩
theorem assignEach_cons {e : Expr} {es : List Expr} {env : PySem.Env} (h : ∀ x p, e ≠ .Starred x p) : assignEach (e :: es) env = (false, assign e env) :: assignEach es env := by
  cases e <;> first | rfl | exact absurd rfl (h _ _)
theorem assignEach_all : ∀ {es : List Expr} {env : PySem.Env}, es.all noStar = true → (assignEach es env).length = es.length ∧ (assignEach es env).findIdx? (·.1) = none
  | [], _, _ => ⟨rfl, rfl⟩
  | e :: es, env, h => by
    rw [List.all_cons, Bool.and_eq_true] at h
    rw [assignEach_cons (noStar_ne h.1)]
    have ih := assignEach_all (es := es) (env := env) h.2
    exact ⟨by rw [List.length_cons, List.length_cons, ih.1], by simp [List.findIdx?_cons, ih.2]⟩
def gsNil : SGs := fun ds ρ => match ds with | [] => some ρ | _ => none
def gsCons (a : SG) (b : SGs) : SGs := fun ds ρ => match ds with | d :: r => (a d ρ).bind (b r) | [] => none
theorem evGs_nil {X : Cx} {ks : Ks} : EvGs X ks [] [] gsNil := by
  refine ⟨PGs.imp pgs_nil fun vs σ H Q ⟨P, ρ, ρ', ds, r, er, e, k⟩ => ?_⟩
  cases ds with
  | cons => cases e
  | nil =>
    cases e
    simp only [RepL] at r
    exact ⟨r, k σ er rfl fun _ _ => rfl⟩
theorem evGs_cons {X : Cx} {ks : Ks} {t : Expr} {ts : List Expr} {is js : List Nat} {a : SG} {b : SGs} (hs : noStar t = true) (h : EvG X ks t is a) (g : EvGs X ks ts js b) : EvGs X ks (t :: ts) (is ++ js) (gsCons a b) := by
  refine ⟨PGs.imp (pgs_cons h.can g.can (by rw [assignEach_cons (noStar_ne hs)]; rfl)) fun vs σ H Q ⟨P, ρ, ρ', ds, r, er, e, k⟩ => ?_⟩
  cases ds with
  | nil => cases e
  | cons d ds =>
    simp only [RepL] at r
    obtain ⟨v, rest, rfl, r1, r2⟩ := r
    obtain ⟨ρ1, e1, e2⟩ := Option.bind_eq_some_iff.mp e
    refine ⟨v, rest, rfl, P, ρ, ρ1, d, r1, er, e1, fun σ' er' hl hj => ?_⟩
    refine ⟨P, ρ1, ρ', ds, r2, er', e2, fun σ2 er2 hl2 hj2 => ?_⟩
    exact k σ2 er2 (hl2.trans hl) fun j hn => by
      rw [List.mem_append, not_or] at hn
      rw [hj2 j hn.2, hj j hn.1]
def gT (b : SGs) : SG := fun d ρ => match d with | .tup ds => b ds ρ | _ => none
/-- how many things a list of targets takes -/
structure Takes (b : SGs) (n : Nat) : Prop where
  len : ∀ ds ρ ρ', b ds ρ = some ρ' → ds.length = n
theorem takes_nil : Takes gsNil 0 := ⟨fun ds ρ ρ' e => by cases ds <;> first | rfl | cases e⟩
theorem takes_cons {a : SG} {b : SGs} {n : Nat} (h : Takes b n) : Takes (gsCons a b) (n + 1) := ⟨fun ds ρ ρ' e => by
  cases ds with
  | nil => cases e
  | cons d ds =>
    obtain ⟨ρ1, e1, e2⟩ := Option.bind_eq_some_iff.mp e
    rw [List.length_cons, h.len ds ρ1 ρ' e2]⟩
theorem evG_tup {X : Cx} {ks : Ks} {ts : List Expr} {is : List Nat} {b : SGs} {k : Nat} {pos : Pos} (hc : X.calm = true) (hs : ts.all noStar = true) (ht : Takes b ts.length) (h : EvGs X ks ts is b) : EvG X ks (.Tuple ts k pos) is (gT b) := by
  refine ⟨PG.imp (pg_tup hc h.can (assignEach_all hs).1 (assignEach_all hs).2) fun v σ H Q ⟨P, ρ, ρ', d, r, er, e, kk⟩ => ?_⟩
  cases d <;> simp only [gT] at e <;> first | (cases e; done) | skip
  simp only [Rep] at r
  obtain ⟨a, vs, rfl, h1, h2⟩ := r
  exact ⟨a, vs, rfl, SqT.of h1, by rw [h2.len]; exact ht.len _ _ _ e, P, ρ, ρ', _, h2, er, e, kk⟩

/-! ### list comprehensions -/
def tTs (mg : Str → Option Value) (ks : Ks) (F : Fn) (f : SB) : TT := tT mg ks F f
structure EvTs (X : Cx) (ks : Ks) (F : Fn) (ifs : List Expr) (f : SB) : Prop where
  can : PTs X ifs (tT X.mg ks F f)
def cTrue : SB := fun _ _ => some true
theorem PTs.imp {X : Cx} {ifs : List Expr} {t u : TT} (h : PTs X ifs t) (g : ∀ σ H Q, u σ H Q → t σ H Q) : PTs X ifs u := by
  obtain ⟨r⟩ := h
  exact ⟨fun pins s σ H Q I q => r pins s σ H Q I (g σ H Q q)⟩
theorem evTs_nil {X : Cx} {ks : Ks} {F : Fn} : EvTs X ks F [] cTrue :=
  ⟨PTs.imp pts_nil fun σ H Q ⟨P, ρ, b, fr, er, e, k⟩ => by cases e; exact k H (Same.refl H)⟩
theorem evTs_one {X : Cx} {ks : Ks} {F : Fn} {c : Expr} {f : SB} (h : EvT X ks F c f) : EvTs X ks F [c] f := ⟨pts_one h.can⟩
/-- the slots of own names unset -/
def wipeE (ρ : RE.Env) : List Nat → RE.Env
  | [] => ρ
  | v :: vs => (wipeE ρ vs).set v none
theorem wipeE_len (ρ : RE.Env) : ∀ vs : List Nat, (wipeE ρ vs).length = ρ.length
  | [] => rfl
  | v :: vs => by unfold wipeE; rw [List.length_set, wipeE_len ρ vs]
theorem wipeE_some {ρ : RE.Env} {i : Nat} {d : D} : ∀ {vs : List Nat}, (wipeE ρ vs)[i]? = some (some d) → ρ[i]? = some (some d) ∧ i ∉ vs
  | [], h => ⟨h, by simp⟩
  | v :: vs, h => by
    unfold wipeE at h
    by_cases hi : v = i
    · subst hi
      by_cases hv : v < (wipeE ρ vs).length
      · rw [List.getElem?_set_self hv] at h; cases h
      · rw [List.getElem?_eq_none (by simpa using hv)] at h; cases h
    · rw [List.getElem?_set_ne hi] at h
      obtain ⟨h1, h2⟩ := wipeE_some h
      refine ⟨h1, ?_⟩
      rw [List.mem_cons, not_or]
      exact ⟨fun e => hi e.symm, h2⟩
theorem ER.wipe {mg : Str → Option Value} {P : Addr → Prop} {ks ks' : Ks} {H : Hp} {σ : L2.St} {ρ : RE.Env} {vs : List Nat} (h : ER mg P ks H σ ρ) (hk : ∀ i, i ∉ vs → kd ks' i = kd ks i) : ER mg P ks' H (L2.wipe σ vs) (wipeE ρ vs) := by
  refine ⟨by rw [wipeE_len, wipe_length]; exact h.1, fun i d e => ?_⟩
  obtain ⟨e1, ni⟩ := wipeE_some e
  obtain ⟨v, e2, r⟩ := h.2 i d e1
  exact ⟨v, by rw [wipe_out ni]; exact e2, by rw [hk i ni]; exact r⟩
theorem wipe_eq {σ σ' : L2.St} {is vs : List Nat} (hl : σ'.length = (L2.wipe σ vs).length) (hj : ∀ j, j ∉ is → σ'[j]? = (L2.wipe σ vs)[j]?) (his : ∀ j ∈ is, j ∈ vs) : L2.wipe σ' vs = L2.wipe σ vs := by
  have wn : ∀ (τ : L2.St) (ws : List Nat) (i : Nat), i ∈ ws → i < τ.length → (L2.wipe τ ws)[i]? = some none := by
    intro τ ws
    induction ws with
    | nil => intro i h; cases h
    | cons w ws ih =>
      intro i h hi
      unfold L2.wipe
      by_cases e : w = i
      · subst e
        exact List.getElem?_set_self (by rw [wipe_length]; exact hi)
      · rw [List.getElem?_set_ne e]
        exact ih i ((List.mem_cons.mp h).resolve_left fun q => e q.symm) hi
  apply List.ext_getElem?
  intro i
  by_cases hi : i ∈ vs
  · by_cases hs : i < σ.length
    · rw [wn σ vs i hi hs, wn σ' vs i hi (by rw [hl, wipe_length]; exact hs)]
    · rw [List.getElem?_eq_none (by rw [wipe_length, hl, wipe_length]; omega), List.getElem?_eq_none (by rw [wipe_length]; omega)]
  · rw [wipe_out hi, hj i fun q => hi (his i q)]
/-- one item's part of a comprehension -/
def lcOne (asg : SG) (t : SB) (e : SE) (F : Fn) (ρ : RE.Env) (d : D) : Option (List D) := (asg d ρ).bind fun ρ' => (t F ρ').bind fun b => if b then (e F ρ').map fun y => [y] else some []
def lcAll (one : D → Option (List D)) : List D → Option (List D)
  | [] => some []
  | d :: ds => (one d).bind fun ys => (lcAll one ds).map (ys ++ ·)
theorem lcAll_snoc (one : D → Option (List D)) (d : D) : ∀ xs : List D, lcAll one (xs ++ [d]) = (lcAll one xs).bind fun a => (one d).map (a ++ ·)
  | [] => by simp [lcAll]
  | x :: xs => by
    simp only [List.cons_append, lcAll, lcAll_snoc one d xs]
    cases one x with
    | none => rfl
    | some ys =>
      simp only [Option.bind_some]
      cases lcAll one xs with
      | none => rfl
      | some a =>
        simp only [Option.bind_some, Option.map_some]
        cases one d <;> simp
theorem lcAll_app (one : D → Option (List D)) (ys : List D) : ∀ xs : List D, lcAll one (xs ++ ys) = (lcAll one xs).bind fun a => (lcAll one ys).map (a ++ ·)
  | [] => by simp [lcAll]
  | x :: xs => by
    simp only [List.cons_append, lcAll, lcAll_app one ys xs]
    cases one x with
    | none => rfl
    | some zs =>
      simp only [Option.bind_some]
      cases lcAll one xs with
      | none => rfl
      | some a =>
        simp only [Option.bind_some, Option.map_some]
        cases lcAll one ys <;> simp
/-- the start of a whole -/
theorem lcAll_take {one : D → Option (List D)} {ds outs : List D} (h : lcAll one ds = some outs) (i : Nat) : ∃ pre post, lcAll one (ds.take i) = some pre ∧ outs = pre ++ post := by
  rw [← List.take_append_drop i ds, lcAll_app] at h
  obtain ⟨a, e1, e2⟩ := Option.bind_eq_some_iff.mp h
  obtain ⟨b, e3, rfl⟩ := Option.map_eq_some_iff.mp e2
  exact ⟨a, b, e1, rfl⟩
def cLc (own : List Nat) (fi : SL) (asg : SG) (t : SB) (e : SE) : SE := fun F ρ => (fi F ρ).bind fun ds => (lcAll (lcOne asg t e F (wipeE ρ own)) ds).bind mkLst
def plainIter : Expr → Bool
  | .List _ _ => false
  | .Set _ _ _ => false
  | _ => true
theorem upd_fun {H : Hp} {a : Addr} {o : HO} {b : Addr} {u : HO} (e : upd H a o b = some u) : (b = a ∧ u = o) ∨ (b ≠ a ∧ H b = some u) := by
  by_cases h : b = a
  · subst h; rw [upd_same] at e; cases e; exact .inl ⟨rfl, rfl⟩
  · rw [upd_ne h] at e; exact .inr ⟨h, e⟩
theorem fre_minus {P : Addr → Prop} {H : Hp} {D : Addr} (fr : Fre P H) (hD : H D ≠ none) : Fre (fun b => P b ∧ b ≠ D) H := fun a ha => ⟨fr a ha, fun e => hD (e ▸ ha)⟩
/-- as EvN; assigned to a name on one line too -/
structure EvNS (X : Cx) (ks : Ks) (F : Fn) (e : Expr) (f : SE) : Prop where
  ex : ∃ t : TE, (PE X e t ∧ ∀ (i : Nat) (y : Str) (py spos : Pos), X.N[i]? = some y → X.env.scope.names.lookup y = some .local → swapsWith e (some (.Name y py)) spos.line X.env = pure true → PS X (.Assign [.Name y py] e spos) (tAsg t (gName i))) ∧
    ∀ σ H, Cn X.mg H ks F f σ (fun P d v H' => Rep P H' d v ∧ TopNew H d v) t
theorem EvNS.toN {X : Cx} {ks : Ks} {F : Fn} {e : Expr} {f : SE} (h : EvNS X ks F e f) : EvN X ks F e f := let ⟨t, p, q⟩ := h.ex; ⟨t, p.1, q⟩
theorem evNS_lc {X : Cx} {ks ks' : Ks} {F : Fn} {elt tg iter : Expr} {ifs : List Expr} {scope : Scope} {own : List (Str × Nat)} {pos : Pos} {fi : SL} {is : List Nat} {asg : SG} {ft : SB} {fe : SE} (hc : X.calm = true) (hN : X.N.Nodup)
    (hi : EvI X ks F tg iter fi) (ok : BlkOk X.N X.env.scope scope own) (his : ∀ j ∈ is, j ∈ own.map (·.2)) (hk : ∀ i, i ∉ own.map (·.2) → kd ks' i = kd ks i)
    (hg : ∀ (s : Shared) (H : Hp) (C : Addr) (cl : List (Str × Addr)) (fp : List Addr), EvG (X.blk s H scope (compEnvC scope cl C X.env) fp) ks' tg is asg)
    (ht : ∀ (s : Shared) (H : Hp) (C : Addr) (cl : List (Str × Addr)) (fp : List Addr), EvTs (X.blk s H scope (compEnvC scope cl C X.env) fp) ks' F ifs ft)
    (he : ∀ (s : Shared) (H : Hp) (C : Addr) (cl : List (Str × Addr)) (fp : List Addr), EvE (X.blk s H scope (compEnvC scope cl C X.env) fp) ks' F elt fe)
    (hs : ∀ x, foldedSetIterable iter X.env x = pure x) : EvNS X ks F (.ListComp elt [⟨tg, iter, ifs, 0⟩] scope pos) (cLc (own.map (·.2)) fi asg ft fe) := by
  obtain ⟨wi, pi, q⟩ := hi.ex
  refine ⟨_, ⟨pe_lc (g := tG X.mg ks' is asg) (tt := tT X.mg ks' F ft) (te := tE X.mg ks' F fe) hc hN pi ok (fun s H C cl fp => (hg s H C cl fp).can) (fun s H C cl fp => (ht s H C cl fp).can) (fun s H C cl fp => (he s H C cl fp).can) hs,
    fun i y py spos hy hyl hsw => ps_setLc (g := tG X.mg ks' is asg) (tt := tT X.mg ks' F ft) (te := tE X.mg ks' F fe) hc hN hy hyl hsw pi ok (fun s H C cl fp => (hg s H C cl fp).can) (fun s H C cl fp => (ht s H C cl fp).can) (fun s H C cl fp => (he s H C cl fp).can) hs⟩, fun σ H P ρ Q d fr er ev k => ?_⟩
  obtain ⟨ds, e1, ev1⟩ := Option.bind_eq_some_iff.mp ev
  obtain ⟨outs, e2, ev2⟩ := Option.bind_eq_some_iff.mp ev1
  obtain ⟨rfl, hlen⟩ := mkLst_some ev2
  refine q σ H P ρ _ ds fr er e1 fun J H1 src s1 wk top Dl hD => ?_
  have fr1 := fr.same s1
  have er1 := er.same s1
  have wk := wk (fun b => P b ∧ b ≠ Dl) fun a ha pa => ⟨pa, fun e => ha (e ▸ hD)⟩
  have kept : ∀ H2, (∀ b o, H1 b = some o → H2 b = some o) → Kept (fun b => P b ∧ b ≠ Dl) src H1 H2 := fun H2 h b o e _ => h b o e
  refine lc_it (n := ds.length) (G := fun H2 => Kept (fun b => P b ∧ b ≠ Dl) src H1 H2) (Y := fun i H2 x H3 => Same H2 H3 ∧ ∃ d, ds[i]? = some d ∧ Rep (fun b => P b ∧ b ≠ Dl) H3 d x) ⟨fun i H2 hi g => wk.goes H2 i g hi, fun H2 g => wk.stops H2 g, fun i H2 x H3 hi g y => wk.yields H2 i x H3 g hi y⟩
    (fun i H2 => ∃ vs pre, lcAll (lcOne asg ft fe F (wipeE ρ (own.map (·.2)))) (ds.take i) = some pre ∧ H2 Dl = some (.lst vs) ∧ RepL (fun b => P b ∧ b ≠ Dl) H2 pre vs ∧ ∀ b o, H1 b = some o → H2 b = some o) ?_ ?_ ?_ ?_
  · refine ⟨[], [], by simp [lcAll], upd_same, by simp [RepL], fun b o e => ?_⟩
    rw [upd_ne (ne_of_none e hD)]; exact e
  · rintro i H2 _ ⟨vs, pre, _, _, _, h⟩
    exact kept H2 h
  · rintro i x H2 H3 hi ⟨vs, pre, hpre, hDl, hr, hkp⟩ ⟨s3, d, hd, rd⟩
    have e3 : ds.take (i + 1) = ds.take i ++ [d] := by rw [List.take_add_one, hd]; rfl
    obtain ⟨pre', post, e4, e5⟩ := lcAll_take e2 (i + 1)
    have e4' := e4
    rw [e3, lcAll_snoc, hpre] at e4
    simp only [Option.bind_some] at e4
    obtain ⟨ys, e6, rfl⟩ := Option.map_eq_some_iff.mp e4
    obtain ⟨ρ', e7, e8⟩ := Option.bind_eq_some_iff.mp e6
    obtain ⟨b, e9, e10⟩ := Option.bind_eq_some_iff.mp e8
    have hD3 : H3 Dl = some (.lst vs) := s3 _ _ hDl
    have all3 : ∀ b o, H1 b = some o → H3 b = some o := fun b o e => s3 b o (hkp b o e)
    have sm : Same H1 H3 := all3
    have fr3 : Fre (fun b => P b ∧ b ≠ Dl) H3 := fre_minus (fr1.same sm) (by rw [hD3]; simp)
    have er3 : ER X.mg (fun b => P b ∧ b ≠ Dl) ks' H3 (L2.wipe σ (own.map (·.2))) (wipeE ρ (own.map (·.2))) := ER.wipe (er1.mono sm fun a ha pa => ⟨pa, fun e => ha (e ▸ hD)⟩) hk
    refine ⟨_, _, _, d, rd, er3, e7, fun σ' er' hl hj => ⟨wipe_eq hl hj his, ?_⟩⟩
    refine ⟨_, ρ', b, fr3, er', e9, fun H4 s4 => ?_⟩
    have all4 : ∀ b o, H1 b = some o → H4 b = some o := fun b o e => s4 b o (all3 b o e)
    cases b with
    | false =>
      rw [if_neg Bool.false_ne_true] at e10
      refine iteF ?_
      cases e10
      exact ⟨vs, pre ++ [], e4', s4 _ _ hD3, by rw [List.append_nil]; exact (hr.same s3).same s4, all4⟩
    | true =>
      rw [if_pos rfl] at e10
      refine iteT ?_
      obtain ⟨y, e11, rfl⟩ := Option.map_eq_some_iff.mp e10
      refine ⟨_, ρ', y, fr3.same s4, er'.same s4, e11, fun v H5 s5 r5 => ?_⟩
      have hD5 : H5 Dl = some (.lst vs) := s5 _ _ (s4 _ _ hD3)
      have rl := ((hr.same s3).same s4).same s5
      refine ⟨vs, hD5, ?_, vs ++ [v], pre ++ [y], e4', upd_same, ?_, fun b o e => ?_⟩
      · rw [rl.len]
        have : outs.length = (pre ++ [y]).length + post.length := by rw [e5, List.length_append]
        rw [List.length_append, List.length_singleton] at this
        omega
      · have r6 : RepL (fun b => P b ∧ b ≠ Dl) H5 (pre ++ [y]) (vs ++ [v]) := rl.app (by simp only [RepL]; exact ⟨v, [], rfl, r5, rfl⟩)
        exact RepL.chg (by rw [hD5]; trivial) (fun z => z.2 rfl) _ _ r6
      · rw [upd_ne (ne_of_none e hD)]
        exact s5 b o (all4 b o e)
  · rintro H2 ⟨vs, pre, hpre, hDl, hr, hkp⟩
    rw [List.take_length, e2] at hpre
    cases hpre
    refine k _ H2 (s1.trans hkp) ⟨?_, ?_⟩
    · simp only [Rep]
      exact ⟨Dl, vs, rfl, fr1 Dl hD, hDl, hr.weak fun a z => z.1⟩
    · exact topNew_ref (s1.free hD)
end RE
/-! RE8b: x[::-1]. -/
namespace HT
open PySem PyProof.Rows
section
variable {prog : Program} {w : World} {A : Around} {E : Value → Shared → Prop} {s : Shared}
theorem sliceApplied_rev {sl : Addr} {i : Tok} {n : Nat} {Q : Int × Int × Nat → Shared → Prop} (hs : s.heap.IsSliceOf sl .none .none (.int (-1) i))
    (h : Q ((n : Int) - 1, -1, n) s) : wpAny (model prog w) A (Builtin.Slice.sliceApplied (.ref sl) (pure (n : Int))) Q E s := by
  obtain ⟨os, hos, hcs, hds⟩ := id hs
  unfold Builtin.Slice.sliceApplied Builtin.Slice.sliceFields
  refine wpAny_bind (wpAny_bind (wpAny_field hos hds (x := .none) rfl (wpAny_bind (wpAny_field hos hds (x := .none) rfl (wpAny_bind (wpAny_field hos hds (x := .int (-1) i) rfl (wpAny_pure ?_)))))))
  refine wpAny_bind (slicePart_int ?_)
  show wpAny _ _ (if ((-1 : Int) == 0) = true then _ else _) _ _ s
  rw [if_neg (by decide)]
  refine wpAny_bind (slicePart_none (wpAny_bind (slicePart_none (wpAny_bind (wpAny_pure ?_)))))
  show wpAny _ _ (pure ((n : Int) - 1, (-1 : Int), Builtin.Slice.slicePlaces ((n : Int) - 1) (-1) (-1))) _ _ s
  have e : Builtin.Slice.slicePlaces ((n : Int) - 1) (-1) (-1) = n := by
    unfold Builtin.Slice.slicePlaces
    rw [if_neg (by omega)]
    by_cases hn : n = 0
    · subst hn; rfl
    · rw [if_pos (by omega)]
      have : ((n : Int) - 1 - -1 - 1) / (- (-1)) + 1 = n := by
        have : (- (-1 : Int)) = 1 := by omega
        rw [this, Int.ediv_one]; omega
      rw [this]; omega
  rw [e]
  exact wpAny_pure h
theorem fm_congr {α β : Type} {f g : α → Option β} : ∀ {l : List α}, (∀ m ∈ l, f m = g m) → l.filterMap f = l.filterMap g
  | [], _ => rfl
  | a :: l, h => by
    rw [List.filterMap_cons, List.filterMap_cons, h a List.mem_cons_self, fm_congr (l := l) fun m hm => h m (List.mem_cons_of_mem _ hm)]
theorem fm_all {α : Type} (l : List α) : (List.range l.length).filterMap (fun m => l[m]?) = l := by
  have : ∀ n, n ≤ l.length → (List.range n).filterMap (fun m => l[m]?) = l.take n := by
    intro n
    induction n with
    | zero => intro _; rfl
    | succ n ih =>
      intro h
      rw [List.range_succ, List.filterMap_append, ih (by omega), List.take_add_one]
      congr 1
  rw [this l.length (Nat.le_refl _), List.take_length]
theorem pick_rev (xs : Array Value) : ((List.range xs.size).filterMap fun (m : Nat) => xs[((xs.size : Int) - 1 + (m : Int) * (-1)).toNat]?).toArray = xs.toList.reverse.toArray := by
  congr 1
  have key : ∀ m ∈ List.range xs.size, xs[((xs.size : Int) - 1 + (m : Int) * (-1)).toNat]? = xs.toList.reverse[m]? := by
    intro m hm
    rw [List.mem_range] at hm
    have : ((xs.size : Int) - 1 + (m : Int) * (-1)).toNat = xs.size - 1 - m := by omega
    rw [this, List.getElem?_reverse (by simpa using hm), Array.length_toList, ← Array.getElem?_toList]
  have h3 := fm_all xs.toList.reverse
  rw [List.length_reverse, Array.length_toList] at h3
  exact (fm_congr key).trans h3
theorem getItem_tuple_rev {t sl : Addr} {items : Array Value} {i : Tok} {Q : Value → Shared → Prop} (ht : IsTup s.heap t items) (hs : s.heap.IsSliceOf sl .none .none (.int (-1) i))
    (h : Q (.ref s.heap.objs.size) { s with heap := s.heap.push { cls := .type "tuple", data := .seq items.toList.reverse.toArray } })
    (hsz : items.size ≤ sizeLine) : wpAny (model prog w) A (getItem (.ref t) (.ref sl)) Q E s := by
  have htake : sizeOk (.seq items.toList.reverse.toArray) := by
    show items.toList.reverse.toArray.size ≤ sizeLine
    simpa using hsz
  obtain ⟨os, hos, hcs, hds⟩ := id hs
  have hTs : s.TypeIs (.ref sl) "slice" := ⟨os, hos, hcs⟩
  unfold getItem
  try with_reducible refine wpAny_holding ?_
  first | refine wpAny_bind (wpAny_pure ?_) | skip
  refine wpAny_bind (wpAny_sequenceKey ht.typeIs (by decide) ?_)
  refine wpAny_bind (wpAny_callSpecial?_slot (name := Str.ofString "__getitem__") ht.typeIs PyProof.Rows.slot_tuple_getitem
    (wpAny_call_entry PyProof.Rows.slot_tuple_getitem ht.typeIs entry_tuple_getitem ?_ (args_tuple_getitem _ _)))
  show wpAny _ _ (Builtin.Tuple.tupleItemsOf (.ref t) >>= _) _ _ s
  refine wpAny_bind (tupleItemsOf_ ht ?_)
  refine wpAny_bind (wpAny_typeOf hTs ?_)
  rw [if_pos (by decide)]
  refine wpAny_bind (sliceApplied_rev hs ?_)
  show wpAny _ _ (if (((items.size : Int) - 1) == 0 && (-1 : Int) == 1 && items.size == items.size) = true then _ else _) _ _ s
  have hno : ¬ ((((items.size : Int) - 1) == 0 && (-1 : Int) == 1 && items.size == items.size) = true) := by
    simp
  rw [if_neg hno, pick_rev]
  first
    | exact wpAny_bind (m := Builtin.Tuple.tupleExact _) (wpAny_newObj_type (wpAny_pure ⟨_, rfl, wpAny_pure h⟩) htake)
    | exact wpAny_bind (m := Builtin.Tuple.tupleExact _) (wpAny_newObj_type (wpAny_bind (wpAny_pure (wpAny_pure ⟨_, rfl, wpAny_pure h⟩))) htake)
    | exact wpAny_bind (wpAny_bind (m := Builtin.Tuple.tupleExact _) (wpAny_newObj_type (wpAny_pure (wpAny_pure ⟨_, rfl, wpAny_pure h⟩)) htake))
    | exact wpAny_bind (wpAny_bind (m := Builtin.Tuple.tupleExact _) (wpAny_newObj_type (wpAny_pure ⟨_, rfl, wpAny_pure h⟩) htake))
end
end HT
namespace RE
open PySem PySem.Spec PyProof.Rows L2
def tRevT (K : PySem.W.Frag) (te : TE) : TE := fun σ H Q => te σ H fun x H1 => ∃ a xs, x = .ref a ∧ SqT K H1 a xs ∧ ∀ p, H1 p = none → Q (.ref p) (upd H1 p (.tup xs.reverse))
theorem pe_revT {X : Cx} {e : Expr} {te : TE} {k : Nat} {p1 p2 p3 pos : Pos} (he : PE X e te) : PE X (.Subscript e (.Slice none none (some (.UnaryOp .USub (.Constant (.int 1) k p1) p2)) p3) pos) (tRevT X.K te) := by
  refine ⟨fun pins s σ H Q I h => ?_⟩
  refine Subscript_ (thn (he.run pins s σ H _ I h) fun v s1 ⟨x, H1, I1, r1, q1⟩ => ?_)
  obtain ⟨a, xs, ex, hx, q⟩ := q1
  subst ex
  cases r1
  have hst : PO X (some (.UnaryOp .USub (.Constant (.int 1) k p1) p2)) (tPart (tUn (rU fun i => .int (-i)) (tC (.int 1)))) := po_some (pe_un un_neg pe_int)
  refine wpAny_Slice (thn (po_none.run pins s1 σ H1 (fun o H2 => o = none ∧ H2 = H1) I1 ⟨rfl, rfl⟩) fun vl s2 ⟨l, H2, I2, pl, el, e2⟩ => ?_)
  subst el e2
  refine thn (po_none.run pins s2 σ H2 (fun o H3 => o = none ∧ H3 = H2) I2 ⟨rfl, rfl⟩) fun vu s3 ⟨u, H3, I3, pu, eu, e3⟩ => ?_
  subst eu e3
  refine thn (hst.run pins s3 σ H3 (fun o H4 => o = some (-1) ∧ H4 = H3) I3 ⟨1, rfl, -1, rfl, rfl, rfl⟩) fun vs s4 ⟨o, H4, I4, ps, eo, e4⟩ => ?_
  subst eo e4
  cases pl
  cases pu
  cases ps with
  | int _ tk =>
    have I5 : Inv X pins σ H4 { s4 with heap := s4.heap.push { cls := .type "slice", data := .fields #[.none, .none, .int (-1) tk] } } := I4.kept (t' := s4.toks) fun b ob q => Heap.get?_push_of_some _ q
    obtain ⟨its, r, ht, hz⟩ := I5.tuple hx
    have hlen := r.length
    show wpAny (model X.prog X.w) X.A (subscriptTail e (.Slice none none (some (.UnaryOp .USub (.Constant (.int 1) k p1) p2)) p3) (.ref a) (.ref s4.heap.objs.size)) (EP X pins σ Q) X.xe { s4 with heap := s4.heap.push { cls := .type "slice", data := .fields #[.none, .none, .int (-1) tk] } }
    refine tail_any (ops := [.ref a, .ref s4.heap.objs.size]) ht.typeIs (PyProof.Rows.slot_tuple_getitem.lookup) ?_ (by with_unfolding_all rfl)
    refine HT.getItem_tuple_rev ht (Heap.IsSliceOf.new _ .none .none (.int (-1) tk)) ?_ (by rw [List.size_toArray]; omega)
    refine ⟨.ref _, _, I5.laid (t' := s4.toks) (o := .tup xs.reverse) (fun b ob q => Heap.get?_push_of_some _ q) (Nat.le_refl _) ?_, rfl, q _ (I5.hok.fresh (Nat.le_refl _))⟩
    exact ⟨by rw [List.length_reverse]; exact hz, _, r.reverse, IsTup.new _ _⟩
theorem pick_all {α : Type} : ∀ m : List α, (List.range m.length).filterMap (fun k => m[k]?) = m
  | [] => rfl
  | x :: m => by
    rw [List.length_cons, List.range_succ_eq_map, List.filterMap_cons, List.filterMap_map]
    show x :: (List.range m.length).filterMap (fun k => m[k]?) = _
    rw [pick_all m]
theorem pick_back {α : Type} (l : List α) : (List.range l.length).filterMap (fun k => l[l.length - 1 - k]?) = l.reverse := by
  have h : ∀ k ∈ List.range l.length, l[l.length - 1 - k]? = l.reverse[k]? := fun k hk => (List.getElem?_reverse (List.mem_range.mp hk)).symm
  rw [HT.fm_congr h]
  have := pick_all l.reverse
  rw [List.length_reverse] at this
  exact this
def revS (z : Str) : Str := ⟨z.cps.toList.reverse.toArray⟩
theorem idx_back (n : Nat) : Builtin.Str.strSliceIndices none none (-1) n = (List.range n).map fun k => n - 1 - k := by
  show sliceRange (if ((-1 : Int) > 0) then 0 else (n : Int) - 1) (if ((-1 : Int) > 0) then (n : Int) else -1) (-1) = _
  rw [if_neg (by omega), if_neg (by omega)]
  unfold sliceRange
  rw [if_neg (by omega)]
  by_cases h : (n : Int) - 1 > -1
  · simp only [if_pos h]
    have e : (((n : Int) - 1 - -1 - -1 - 1) / (- -1)).toNat = n := by
      have : (- -1 : Int) = 1 := rfl
      rw [this, Int.ediv_one]
      omega
    rw [e]
    refine List.map_congr_left fun k hk => ?_
    have := List.mem_range.mp hk
    omega
  · have : n = 0 := by omega
    subst this
    simp only [if_neg h]
    rfl
theorem text_back (z : Str) : (⟨((Builtin.Str.strSliceIndices none none (-1) z.length).filterMap (z.cps[·]?)).toArray⟩ : Str) = revS z := by
  rw [idx_back, List.filterMap_map]
  unfold revS
  rw [← pick_back z.cps.toList]
  congr 2
  have e : z.cps.toList.length = z.length := Array.length_toList
  rw [e]
  refine HT.fm_congr fun k _ => ?_
  show z.cps[z.length - 1 - k]? = z.cps.toList[z.length - 1 - k]?
  rw [Array.getElem?_toList]
def tRevS (te : TE) : TE := fun σ H Q => te σ H fun x H1 => ∃ z, x = .str z ∧ z.length ≤ sizeLine ∧ Q (.str (revS z)) H1
theorem pe_revS {X : Cx} {e : Expr} {te : TE} {k : Nat} {p1 p2 p3 pos : Pos} (he : PE X e te) : PE X (.Subscript e (.Slice none none (some (.UnaryOp .USub (.Constant (.int 1) k p1) p2)) p3) pos) (tRevS te) := by
  refine ⟨fun pins s σ H Q I h => ?_⟩
  refine Subscript_ (thn (he.run pins s σ H _ I h) fun v s1 ⟨x, H1, I1, r1, q1⟩ => ?_)
  obtain ⟨z, ex, hz, q⟩ := q1
  subst ex
  obtain ⟨t, rfl⟩ := (show ∃ t, v = .str z t from r1)
  have hst : PO X (some (.UnaryOp .USub (.Constant (.int 1) k p1) p2)) (tPart (tUn (rU fun i => .int (-i)) (tC (.int 1)))) := po_some (pe_un un_neg pe_int)
  refine wpAny_Slice (thn (po_none.run pins s1 σ H1 (fun o H2 => o = none ∧ H2 = H1) I1 ⟨rfl, rfl⟩) fun vl s2 ⟨l, H2, I2, pl, el, e2⟩ => ?_)
  subst el e2
  refine thn (po_none.run pins s2 σ H2 (fun o H3 => o = none ∧ H3 = H2) I2 ⟨rfl, rfl⟩) fun vu s3 ⟨u, H3, I3, pu, eu, e3⟩ => ?_
  subst eu e3
  refine thn (hst.run pins s3 σ H3 (fun o H4 => o = some (-1) ∧ H4 = H3) I3 ⟨1, rfl, -1, rfl, rfl, rfl⟩) fun vs s4 ⟨o, H4, I4, ps, eo, e4⟩ => ?_
  subst eo e4
  cases pl
  cases pu
  cases ps with
  | int _ tk =>
    have I5 : Inv X pins σ H4 { s4 with heap := s4.heap.push { cls := .type "slice", data := .fields #[.none, .none, .int (-1) tk] } } := I4.kept (t' := s4.toks) fun b ob q => Heap.get?_push_of_some _ q
    show wpAny (model X.prog X.w) X.A (subscriptTail e (.Slice none none (some (.UnaryOp .USub (.Constant (.int 1) k p1) p2)) p3) (.str z t) (.ref s4.heap.objs.size)) (EP X pins σ Q) X.xe { s4 with heap := s4.heap.push { cls := .type "slice", data := .fields #[.none, .none, .int (-1) tk] } }
    refine tail_any (ops := [.str z t, .ref s4.heap.objs.size]) (typeIs_str _ z t) (F.slot_str_getitem.lookup) ?_ (by with_unfolding_all rfl)
    refine wpAny_getItem_str_slice (l := none) (u := none) (st := some (-1, tk)) ⟨_, Heap.get?_push_size _ rfl, rfl, rfl⟩ rfl ?_
    have hl : (revS z).length ≤ sizeLine := by
      show (z.cps.toList.reverse.toArray).size ≤ sizeLine
      rw [List.size_toArray, List.length_reverse, Array.length_toList]
      exact hz
    show Made.post (if ((-1 : Int) == 1 && (Builtin.Str.strSliceIndices none none (-1) z.length).length == z.length) = true then Made.val (.str z t)
      else Made.str ⟨((Builtin.Str.strSliceIndices none none (-1) z.length).filterMap (z.cps[·]?)).toArray⟩) (EP X pins σ Q) _
    rw [if_neg (by simp), text_back]
    exact ⟨hl, .str _, H4, I5.tok _, ⟨_, rfl⟩, q⟩
/-- the other way round -/
def revD : D → Option D
  | .lst xs => some (.lst xs.reverse)
  | .tup xs => some (.tup xs.reverse)
  | .str z => if fits z.length then some (.str (revS z)) else none
  | .scr ns => some (.lst (ns.reverse.map .int))
  | _ => none
theorem RepL.rev {P : Addr → Prop} {H : Hp} : ∀ {ds : List D} {vs : List V}, RepL P H ds vs → RepL P H ds.reverse vs.reverse
  | [], vs, h => by simp only [RepL] at h; subst h; simp [RepL]
  | d :: ds, vs, h => by
    simp only [RepL] at h
    obtain ⟨v, r, rfl, h1, h2⟩ := h
    rw [List.reverse_cons, List.reverse_cons]
    exact h2.rev.app (by simp only [RepL]; exact ⟨v, [], rfl, h1, rfl⟩)
theorem evN_rev {X : Cx} {ks : Ks} {F : Fn} {e : Expr} {f : SE} {k : Nat} {p1 p2 p3 pos : Pos} (h : EvP X ks F e f) : EvN X ks F (.Subscript e (.Slice none none (some (.UnaryOp .USub (.Constant (.int 1) k p1) p2)) p3) pos) (cU revD f) := by
  obtain ⟨t, p, q⟩ := h.ex
  refine ⟨_, pe_or2 (pe_revL p) (pe_or2 (pe_revT p) (pe_revS p)), fun σ H P ρ Q d fr er ev kk => ?_⟩
  obtain ⟨x, e1, e2⟩ := Option.bind_eq_some_iff.mp ev
  cases x with
  | str z =>
    simp only [revD] at e2
    split at e2
    · rename_i c
      cases e2
      refine .inr (.inr (q σ H P ρ _ _ fr er e1 fun v H1 s1 r1 => ?_))
      simp only [RepB] at r1
      exact ⟨z, r1, of_decide_eq_true c, kk _ _ s1 ⟨by simp only [Rep], trivial⟩⟩
    · cases e2
  | tup xs =>
    cases e2
    refine .inr (.inl (q σ H P ρ _ _ fr er e1 fun v H1 s1 r1 => ?_))
    obtain ⟨a, vs, rfl, h1, h2⟩ := r1.tup
    refine ⟨a, vs, rfl, SqT.of h1, fun p hp => kk _ _ (s1.trans (same_new hp)) ⟨?_, trivial⟩⟩
    simp only [Rep]
    exact ⟨p, _, rfl, upd_same, (h2.same (same_new hp)).rev⟩
  | lst xs =>
    cases e2
    refine .inl (q σ H P ρ _ _ fr er e1 fun v H1 s1 r1 => ?_)
    obtain ⟨a, vs, rfl, h1, h2⟩ := r1.lst
    refine ⟨a, vs, rfl, SqL.of h1, fun p hp => kk _ _ (s1.trans (same_new hp)) ⟨?_, topNew_ref (s1.free hp)⟩⟩
    simp only [Rep]
    exact ⟨p, _, rfl, (fr.same s1) p hp, upd_same, (h2.same (same_new hp)).rev⟩
  | scr ns =>
    cases e2
    refine .inl (q σ H P ρ _ _ fr er e1 fun v H1 s1 r1 => ?_)
    simp only [RepB, Rep] at r1
    obtain ⟨a, o, rfl, h1⟩ := r1
    refine ⟨a, _, rfl, .inl (.inr ⟨o, h1⟩), fun p hp => kk _ _ (s1.trans (same_new hp)) ⟨?_, topNew_ref (s1.free hp)⟩⟩
    simp only [Rep]
    refine ⟨p, _, rfl, (fr.same s1) p hp, upd_same, ?_⟩
    rw [← List.map_reverse]
    exact RepL.ofInts _
  | _ => cases e2
end RE
/-! RE8c: lists cut by steps, x[a:b:n]. -/
namespace RE
open PySem PySem.Spec PyProof.Rows L2

/-- the items that a slice by steps takes -/
def pickL {α : Type} (xs : List α) (lo hi : Option Int) (n : Int) : List α := (sliceRange (sliceBounds lo hi (some n) xs.length).1 (sliceBounds lo hi (some n) xs.length).2.1 (sliceBounds lo hi (some n) xs.length).2.2).filterMap (xs[·]?)
theorem pick_mem {α : Type} {xs : List α} {lo hi : Option Int} {n : Int} {x : α} (h : x ∈ pickL xs lo hi n) : x ∈ xs := by
  unfold pickL at h
  obtain ⟨i, _, e⟩ := List.mem_filterMap.mp h
  exact List.mem_of_getElem? e
theorem Vals.some_of : ∀ {xs : List V} {us : List Value} {i : Nat}, Vals xs us → (xs[i]? = none ↔ us[i]? = none) := fun {xs us i} r => by
  rw [List.getElem?_eq_none_iff, List.getElem?_eq_none_iff, r.length]
theorem Vals.pick {xs : List V} {us : List Value} (r : Vals xs us) : ∀ l : List Nat, Vals (l.filterMap (xs[·]?)) (l.filterMap (us[·]?))
  | [] => .nil
  | i :: l => by
    cases hx : xs[i]? with
    | none =>
      have hu := (Vals.some_of r).mp hx
      rw [List.filterMap_cons_none hx, List.filterMap_cons_none hu]
      exact Vals.pick r l
    | some x =>
      obtain ⟨u, hu, rel⟩ := r.get hx
      rw [List.filterMap_cons_some hx, List.filterMap_cons_some hu]
      exact .cons rel (Vals.pick r l)
theorem RepL.pick {P : Addr → Prop} {H : Hp} {ds : List D} {vs : List V} (h : RepL P H ds vs) : ∀ l : List Nat, RepL P H (l.filterMap (ds[·]?)) (l.filterMap (vs[·]?))
  | [] => by simp [RepL]
  | i :: l => by
    by_cases hi : i < ds.length
    · obtain ⟨v, hv, rel⟩ := h.get (List.getElem?_eq_getElem hi)
      rw [List.filterMap_cons_some (List.getElem?_eq_getElem hi), List.filterMap_cons_some hv]
      simp only [RepL]
      exact ⟨v, _, rfl, rel, RepL.pick h l⟩
    · have hd : ds[i]? = none := List.getElem?_eq_none (by omega)
      have hv : vs[i]? = none := List.getElem?_eq_none (by rw [h.len]; omega)
      rw [List.filterMap_cons_none hd, List.filterMap_cons_none hv]
      exact RepL.pick h l
theorem RepL.pickL {P : Addr → Prop} {H : Hp} {ds : List D} {vs : List V} (h : RepL P H ds vs) (lo hi : Option Int) (n : Int) : RepL P H (RE.pickL ds lo hi n) (RE.pickL vs lo hi n) := by
  unfold RE.pickL
  rw [h.len]
  exact RepL.pick h _
theorem pick_len {α : Type} (xs : List α) (lo hi : Option Int) (n : Int) : (pickL xs lo hi n).length ≤ (sliceRange (sliceBounds lo hi (some n) xs.length).1 (sliceBounds lo hi (some n) xs.length).2.1 (sliceBounds lo hi (some n) xs.length).2.2).length := List.length_filterMap_le _ _
def tStep (K : PySem.W.Frag) (te : TE) (tl tu : TO) (n : Int) : TE := fun σ H Q => te σ H fun x H1 => (∃ a xs, x = .ref a ∧ SqL K H1 a xs) ∧ tl σ H1 fun l H2 => tu σ H2 fun u H3 => ∃ a xs, x = .ref a ∧ SqL K H3 a xs ∧ (pickL xs l u n).length ≤ sizeLine ∧ ∀ p, H3 p = none → Q (.ref p) (upd H3 p (.lst (pickL xs l u n)))
theorem pe_stepL {X : Cx} {e : Expr} {lo hi : Option Expr} {te : TE} {tl tu : TO} {n : Int} {k : Nat} {p1 p3 pos : Pos} (hn : n ≠ 0) (he : PE X e te) (hl : PO X lo tl) (hu : PO X hi tu) : PE X (.Subscript e (.Slice lo hi (some (.Constant (.int n) k p1)) p3) pos) (tStep X.K te tl tu n) := by
  refine ⟨fun pins s σ H Q I h => ?_⟩
  refine Subscript_ (thn (he.run pins s σ H _ I h) fun v s1 ⟨x, H1, I1, r1, _, q1⟩ => ?_)
  have hst : PO X (some (.Constant (.int n) k p1)) (tPart (tC (.int n))) := po_some pe_int
  refine wpAny_Slice (thn (hl.run pins s1 σ H1 _ I1 q1) fun vl s2 ⟨l, H2, I2, pl, q2⟩ => ?_)
  refine thn (hu.run pins s2 σ H2 _ I2 q2) fun vu s3 ⟨u, H3, I3, pu, q3⟩ => ?_
  refine thn (hst.run pins s3 σ H3 (fun o H4 => o = some n ∧ H4 = H3) I3 ⟨n, rfl, rfl, rfl⟩) fun vs s4 ⟨o, H4, I4, ps, eo, e4⟩ => ?_
  subst eo e4
  obtain ⟨a, xs, ex, hx, hb, q⟩ := q3
  subst ex
  cases r1
  have I5 : Inv X pins σ H4 { s4 with heap := s4.heap.push { cls := .type "slice", data := .fields #[vl, vu, vs] } } := I4.kept (t' := s4.toks) fun b ob q => Heap.get?_push_of_some _ q
  obtain ⟨its, r, ht, hz⟩ := I5.list hx
  have hlen := r.length
  show wpAny (model X.prog X.w) X.A (subscriptTail e (.Slice lo hi (some (.Constant (.int n) k p1)) p3) (.ref a) (.ref s4.heap.objs.size)) (EP X pins σ Q) X.xe { s4 with heap := s4.heap.push { cls := .type "slice", data := .fields #[vl, vu, vs] } }
  refine tail_any (ops := [.ref a, .ref s4.heap.objs.size]) ht.isList.typeIs (PySem.slot_list_getitem.lookup) ?_ (by with_unfolding_all rfl)
  refine wpAny_getItem_list_slice ht.isList (Heap.IsSliceOf.new _ vl vu vs) pl pu ps (by simpa using hn) ?_ (by rw [List.size_toArray]; omega)
  have ep : slicePick its.toArray l u (some n) = (pickL its l u n).toArray := by
    unfold slicePick pickL
    rw [List.size_toArray]
    congr 2
    funext j
    simp
  rw [ep]
  refine ⟨.ref _, _, I5.laid (t' := s4.toks) (o := .lst (pickL xs l u n)) (fun b ob q => Heap.get?_push_of_some _ q) (Nat.le_refl _) ?_, rfl, q _ (I5.hok.fresh (Nat.le_refl _))⟩
  refine ⟨hb, _, 0, ?_, Heap.get?_push_size _ rfl⟩
  unfold pickL
  rw [hlen]
  exact Vals.pick r _
/-- x[a:b:n] of a list -/
def stepD (n : Int) (lo hi : Option Int) : D → Option D
  | .lst xs => if fits (pickL xs lo hi n).length then some (.lst (pickL xs lo hi n)) else none
  | _ => none
def cStep (f : SE) (lo hi : SO) (n : Int) : SE := fun F ρ => (f F ρ).bind fun d => (lo F ρ).bind fun l => (hi F ρ).bind fun h => stepD n l h d
theorem evN_step {X : Cx} {ks : Ks} {F : Fn} {e : Expr} {lo hi : Option Expr} {f : SE} {g h : SO} {n : Int} {k : Nat} {p1 p3 pos : Pos} (hn : n ≠ 0) (he : EvP X ks F e f) (hl : EvO X ks F lo g) (hh : EvO X ks F hi h) : EvN X ks F (.Subscript e (.Slice lo hi (some (.Constant (.int n) k p1)) p3) pos) (cStep f g h n) := by
  obtain ⟨t, p, q⟩ := he.ex
  obtain ⟨tl, pl, ql⟩ := hl.ex
  obtain ⟨tu, pu, qu⟩ := hh.ex
  refine ⟨_, pe_stepL hn p pl pu, fun σ H P ρ Q d fr er ev kk => ?_⟩
  obtain ⟨x, e1, ev1⟩ := Option.bind_eq_some_iff.mp ev
  obtain ⟨l, e2, ev2⟩ := Option.bind_eq_some_iff.mp ev1
  obtain ⟨u, e3, ev3⟩ := Option.bind_eq_some_iff.mp ev2
  cases x <;> simp only [stepD] at ev3 <;> first | (cases ev3; done) | skip
  by_cases c : fits (RE.pickL ‹List D› l u n).length = true
  · rw [if_pos c] at ev3
    cases ev3
    refine q σ H P ρ _ _ fr er e1 fun v H1 s1 r1 => ?_
    obtain ⟨a, vs, rfl, h1, h2⟩ := r1.lst
    refine ⟨⟨a, vs, rfl, SqL.of h1⟩, ql σ H1 P ρ _ l (fr.same s1) (er.same s1) e2 fun H2 s2 => ?_⟩
    refine qu σ H2 P ρ _ u ((fr.same s1).same s2) ((er.same s1).same s2) e3 fun H3 s3 => ?_
    have h4 := (h2.same s2).same s3
    refine ⟨a, vs, rfl, SqL.of (s3 _ _ (s2 _ _ h1)), ?_, fun p hp => kk _ _ (((s1.trans s2).trans s3).trans (same_new hp)) ⟨?_, topNew_ref (((s1.trans s2).trans s3).free hp)⟩⟩
    · rw [(h4.pickL l u n).len]
      exact of_decide_eq_true c
    · simp only [Rep]
      exact ⟨p, _, rfl, (((fr.same s1).same s2).same s3) p hp, upd_same, (h4.pickL l u n).same (same_new hp)⟩
  · rw [if_neg c] at ev3; cases ev3
end RE
/-! RE9: statements. -/
namespace RE
open PySem PySem.Spec PyProof.Rows L2

inductive Res where
  | nx (ρ : RE.Env) | rt (nw : Bool) (d : D)
abbrev SS := Fn → RE.Env → Option Res
/-- the state within a def's body: Hb, Pe: the heap and the allowed places at its entry; P: the allowed places now -/
structure SR (mg : Str → Option Value) (Hb : Hp) (Pe P : Addr → Prop) (ks : Ks) (H : Hp) (σ : L2.St) (ρ : RE.Env) : Prop where
  freE : ∀ a, Hb a = none → Pe a
  sub : ∀ a, P a → Pe a
  fre : Fre P H
  keep : Same Hb H
  er : ER mg P ks H σ ρ
  own : ∀ i d, (kd ks i = .M ∨ kd ks i = .L) → ρ[i]? = some (some d) → isMut d = true → ∃ a, σ[i]? = some (some (.ref a)) ∧ Hb a = none ∧ ¬ P a ∧ (kd ks i = .M → Chg (H a))
  dist : ∀ i j d e a, i ≠ j → (kd ks i = .M ∨ kd ks i = .L) → (kd ks j = .M ∨ kd ks j = .L) → ρ[i]? = some (some d) → ρ[j]? = some (some e) → isMut d = true → isMut e = true → σ[i]? = some (some (.ref a)) → σ[j]? = some (some (.ref a)) → False
  bord : ∀ i d a, kd ks i = .B → ρ[i]? = some (some d) → isMut d = true → σ[i]? = some (some (.ref a)) → Hb a ≠ none
  nofn : ∀ i g, (kd ks i = .M ∨ kd ks i = .L) → ρ[i]? ≠ some (some (.fn g))
/-- what a piece of a body leaves as it was -/
structure Frm (ks : Ks) (P : Addr → Prop) (H : Hp) (σ : L2.St) (ρ : RE.Env) (P' : Addr → Prop) (H' : Hp) (σ' : L2.St) (ρ' : RE.Env) : Prop where
  sub : ∀ a, P' a → P a
  ext : ∀ a, H a ≠ none → P a → P' a
  slots : ∀ i, kd ks i = .L ∨ kd ks i = .B → σ'[i]? = σ[i]? ∧ ρ'[i]? = ρ[i]?
  objs : ∀ b o, H b = some o → Top ks σ ρ P b ∨ ¬ Chg (some o) → H' b = some o
  there : ∀ c, H c ≠ none → H' c ≠ none
theorem Frm.refl {ks : Ks} {P : Addr → Prop} {H : Hp} {σ : L2.St} {ρ : RE.Env} : Frm ks P H σ ρ P H σ ρ := ⟨fun _ p => p, fun _ _ p => p, fun _ _ => ⟨rfl, rfl⟩, fun _ _ e _ => e, fun _ h => h⟩
theorem Frm.trans {ks : Ks} {P P1 P2 : Addr → Prop} {H H1 H2 : Hp} {σ σ1 σ2 : L2.St} {ρ ρ1 ρ2 : RE.Env} (a : Frm ks P H σ ρ P1 H1 σ1 ρ1) (b : Frm ks P1 H1 σ1 ρ1 P2 H2 σ2 ρ2) : Frm ks P H σ ρ P2 H2 σ2 ρ2 where
  sub := fun c p => a.sub c (b.sub c p)
  ext := fun c h p => b.ext c (a.there c h) (a.ext c h p)
  slots := fun i h => ⟨(b.slots i h).1.trans (a.slots i h).1, (b.slots i h).2.trans (a.slots i h).2⟩
  objs := fun c o e h => by
    refine b.objs c o (a.objs c o e h) ?_
    rcases h with (p | ⟨i, d, hi, hs, hr, hm⟩) | h
    · exact .inl (.inl (a.ext c (by rw [e]; simp) p))
    · exact .inl (.inr ⟨i, d, hi, by rw [(a.slots i hi).1]; exact hs, by rw [(a.slots i hi).2]; exact hr, hm⟩)
    · exact .inr h
  there := fun c h => b.there c (a.there c h)
theorem Frm.of_same {ks : Ks} {P : Addr → Prop} {H H' : Hp} {σ : L2.St} {ρ : RE.Env} (s : Same H H') : Frm ks P H σ ρ P H' σ ρ := ⟨fun _ p => p, fun _ _ p => p, fun _ _ => ⟨rfl, rfl⟩, fun b o e _ => s b o e, fun c h z => h (s.free z)⟩
theorem SR.same {mg : Str → Option Value} {Hb : Hp} {Pe P : Addr → Prop} {ks : Ks} {H H' : Hp} {σ : L2.St} {ρ : RE.Env} (h : SR mg Hb Pe P ks H σ ρ) (s : Same H H') : SR mg Hb Pe P ks H' σ ρ where
  freE := h.freE
  sub := h.sub
  fre := h.fre.same s
  keep := h.keep.trans s
  er := h.er.same s
  own := fun i d hk e m => by
    obtain ⟨a, h1, h2, h3, h4⟩ := h.own i d hk e m
    refine ⟨a, h1, h2, h3, fun q => ?_⟩
    have c := h4 q
    cases q0 : H a with
    | none => rw [q0] at c; exact c.elim
    | some o => rw [s a o q0]; rw [q0] at c; exact c
  dist := h.dist
  bord := h.bord
  nofn := h.nofn
def Post (mg : Str → Option Value) (Hb : Hp) (Pe P : Addr → Prop) (ks : Ks) (H : Hp) (σ : L2.St) (ρ : RE.Env) (D : Ends) : Res → Prop
  | .nx ρ' => ∀ P' σ' H', SR mg Hb Pe P' ks H' σ' ρ' → Frm ks P H σ ρ P' H' σ' ρ' → D.nx σ' H'
  | .rt nw d => ∀ v H', Same Hb H' → Rep Pe H' d v → (nw = true → TopNew Hb d v) → D.rt v H'
structure EvS (X : Cx) (ks : Ks) (F : Fn) (st : Stmt) (g : SS) : Prop where
  ex : ∃ t : TS, PS X st t ∧ ∀ Hb Pe P H σ ρ D r, SR X.mg Hb Pe P ks H σ ρ → g F ρ = some r → Post X.mg Hb Pe P ks H σ ρ D r → t D σ H
structure EvSs (X : Cx) (ks : Ks) (F : Fn) (st : List Stmt) (g : SS) : Prop where
  ex : ∃ t : TS, PSs X st t ∧ ∀ Hb Pe P H σ ρ D r, SR X.mg Hb Pe P ks H σ ρ → g F ρ = some r → Post X.mg Hb Pe P ks H σ ρ D r → t D σ H

section
variable {X : Cx} {ks : Ks} {F : Fn} {pos : Pos}
def sNil : SS := fun _ ρ => some (.nx ρ)
def sSeq (f g : SS) : SS := fun F ρ => (f F ρ).bind fun r => match r with | .nx ρ' => g F ρ' | .rt b d => some (.rt b d)
theorem evSs_nil : EvSs X ks F [] sNil := ⟨tNext, pss_nil, fun Hb Pe P H σ ρ D r sr e k => by cases e; exact k P σ H sr Frm.refl⟩
theorem Post.after {mg : Str → Option Value} {Hb : Hp} {Pe P P1 : Addr → Prop} {H H1 : Hp} {σ σ1 : L2.St} {ρ ρ1 : RE.Env} {D : Ends} {r : Res} (k : Post mg Hb Pe P ks H σ ρ D r) (f : Frm ks P H σ ρ P1 H1 σ1 ρ1) : Post mg Hb Pe P1 ks H1 σ1 ρ1 D r := by
  cases r with
  | nx ρ' => exact fun P' σ' H' sr f' => k P' σ' H' sr (f.trans f')
  | rt b d => exact k
theorem evSs_cons {st : Stmt} {rest : List Stmt} {f g : SS} (h : EvS X ks F st f) (h' : EvSs X ks F rest g) : EvSs X ks F (st :: rest) (sSeq f g) := by
  obtain ⟨t, p, q⟩ := h.ex
  obtain ⟨t', p', q'⟩ := h'.ex
  refine ⟨tSeq t t', pss_cons p p', fun Hb Pe P H σ ρ D r sr e k => ?_⟩
  obtain ⟨r1, e1, e2⟩ := Option.bind_eq_some_iff.mp e
  refine q Hb Pe P H σ ρ _ r1 sr e1 ?_
  cases r1 with
  | nx ρ1 => exact fun P1 σ1 H1 sr1 f1 => q' Hb Pe P1 H1 σ1 ρ1 D r sr1 e2 (k.after f1)
  | rt b d => cases e2; exact k

/-! ### assignments -/
theorem SR.assign {mg : Str → Option Value} {Hb : Hp} {Pe P : Addr → Prop} {H : Hp} {σ σ' : L2.St} {ρ ρ' : RE.Env} {is : List Nat} (h : SR mg Hb Pe P ks H σ ρ) (hF : ∀ j ∈ is, kd ks j = .F) (er : ER mg P ks H σ' ρ') (hs : ∀ j, j ∉ is → σ'[j]? = σ[j]?) (hρ : ∀ j, j ∉ is → ρ'[j]? = ρ[j]?) : SR mg Hb Pe P ks H σ' ρ' where
  freE := h.freE
  sub := h.sub
  fre := h.fre
  keep := h.keep
  er := er
  own := fun i d hk e m => by
    have ni : i ∉ is := fun q => by rw [hF i q] at hk; rcases hk with z | z <;> cases z
    rw [hs i ni]
    exact h.own i d hk (by rw [← hρ i ni]; exact e) m
  dist := fun i j d e a ij hi hj e1 e2 m1 m2 s1 s2 => by
    have ni : i ∉ is := fun q => by rw [hF i q] at hi; rcases hi with z | z <;> cases z
    have nj : j ∉ is := fun q => by rw [hF j q] at hj; rcases hj with z | z <;> cases z
    exact h.dist i j d e a ij hi hj (by rw [← hρ i ni]; exact e1) (by rw [← hρ j nj]; exact e2) m1 m2 (by rw [← hs i ni]; exact s1) (by rw [← hs j nj]; exact s2)
  bord := fun i d a hk e m s => by
    have ni : i ∉ is := fun q => by rw [hF i q] at hk; cases hk
    exact h.bord i d a hk (by rw [← hρ i ni]; exact e) m (by rw [← hs i ni]; exact s)
  nofn := fun i g hk => by
    have ni : i ∉ is := fun q => by rw [hF i q] at hk; rcases hk with z | z <;> cases z
    rw [hρ i ni]
    exact h.nofn i g hk
theorem Frm.assign {P : Addr → Prop} {H : Hp} {σ σ' : L2.St} {ρ ρ' : RE.Env} {is : List Nat} (hF : ∀ j ∈ is, kd ks j = .F) (hs : ∀ j, j ∉ is → σ'[j]? = σ[j]?) (hr : ∀ j, j ∉ is → ρ'[j]? = ρ[j]?) : Frm ks P H σ ρ P H σ' ρ' :=
  ⟨fun _ p => p, fun _ _ p => p, (fun i hi => have ni : i ∉ is := fun q => by rw [hF i q] at hi; exact hi.elim (fun z => nomatch z) fun z => nomatch z
    ⟨hs i ni, hr i ni⟩), fun _ _ e _ => e, fun _ h => h⟩
/-- asg touches the slots is alone -/
def Touches (asg : SG) (is : List Nat) : Prop := ∀ d ρ ρ', asg d ρ = some ρ' → ρ'.length = ρ.length ∧ ∀ j, j ∉ is → ρ'[j]? = ρ[j]?
def TouchesL (asg : SGs) (is : List Nat) : Prop := ∀ d ρ ρ', asg d ρ = some ρ' → ρ'.length = ρ.length ∧ ∀ j, j ∉ is → ρ'[j]? = ρ[j]?
theorem touches_name {i : Nat} : Touches (gN i) [i] := fun d ρ ρ' e => by
  cases e
  exact ⟨List.length_set, fun j hj => List.getElem?_set_ne (by simpa [eq_comm] using hj)⟩
theorem touches_nil : TouchesL gsNil [] := fun d ρ ρ' e => by
  cases d <;> cases e
  exact ⟨rfl, fun _ _ => rfl⟩
theorem touches_cons {a : SG} {b : SGs} {is js : List Nat} (h : Touches a is) (g : TouchesL b js) : TouchesL (gsCons a b) (is ++ js) := fun ds ρ ρ' e => by
  cases ds with
  | nil => cases e
  | cons d ds =>
    obtain ⟨ρ1, e1, e2⟩ := Option.bind_eq_some_iff.mp e
    obtain ⟨l1, h1⟩ := h d ρ ρ1 e1
    obtain ⟨l2, h2⟩ := g ds ρ1 ρ' e2
    refine ⟨l2.trans l1, fun j hj => ?_⟩
    rw [List.mem_append, not_or] at hj
    rw [h2 j hj.2, h1 j hj.1]
theorem touches_tup {b : SGs} {is : List Nat} (h : TouchesL b is) : Touches (gT b) is := fun d ρ ρ' e => by
  cases d <;> simp only [gT] at e <;> first | (cases e; done) | exact h _ ρ ρ' e
def sAsg (f : SE) (asg : SG) : SS := fun F ρ => (f F ρ).bind fun d => (asg d ρ).map .nx
theorem evS_asg {tg e : Expr} {f : SE} {is : List Nat} {asg : SG} (hn : noStar tg = true) (he : EvE X ks F e f) (hg : EvG X ks tg is asg) (ht : Touches asg is) (hF : ∀ j ∈ is, kd ks j = .F) (hs : swapsWithSole [tg] e pos.line X.env = pure false) (hw : swappedStores [tg] e X.env = pure none) :
    EvS X ks F (.Assign [tg] e pos) (sAsg f asg) := by
  obtain ⟨t, p, q⟩ := he.ex
  refine ⟨tAsg t (tG X.mg ks is asg), ps_asg p hg.can hs hw (by rw [assignEach_cons (noStar_ne hn)]; rfl), fun Hb Pe P H σ ρ D r sr ev k => ?_⟩
  obtain ⟨d, e1, e2⟩ := Option.bind_eq_some_iff.mp ev
  obtain ⟨ρ', e3, rfl⟩ := Option.map_eq_some_iff.mp e2
  refine q σ H P ρ _ d sr.fre sr.er e1 fun v H1 s1 r1 => ?_
  refine ⟨P, ρ, ρ', d, r1, sr.er.same s1, e3, fun σ' er' hl hj => ?_⟩
  have sr1 := (sr.same s1).assign hF er' hj (ht d ρ ρ' e3).2
  exact k P σ' H1 sr1 ((Frm.of_same s1).trans (Frm.assign hF hj (ht d ρ ρ' e3).2))
/-- x = e where x is the frame's own, e new -/
theorem Rep.inner {P : Addr → Prop} {H : Hp} {a : Addr} : ∀ (d : D) (v : V) (e : D), sizeOf d < sizeOf e → Rep P H e (.ref a) → (H a).isSome = true → (∀ vs, H a ≠ some (.tup vs)) → Rep P H d v → Rep (fun b => P b ∧ b ≠ a) H d v := by
  intro d v e hlt he ha ht h
  have key : ∀ (d' : D) (b : Addr), Rep P H d' (.ref b) → sizeOf d' < sizeOf e → b ≠ a := fun d' b hd hl q => by
    subst q
    have := Rep.inj d' e (.ref b) hd he
    rw [this] at hl
    exact Nat.lt_irrefl _ hl
  have go : ∀ n, (∀ d v, sizeOf d ≤ n → sizeOf d < sizeOf e → Rep P H d v → Rep (fun b => P b ∧ b ≠ a) H d v) := by
    intro n
    induction n with
    | zero => intro d v h0; cases d <;> simp at h0 <;> omega
    | succ n ih =>
      have ihL : ∀ (ds : List D) (vs : List V), sizeOf ds ≤ n + 1 → sizeOf ds < sizeOf e → RepL P H ds vs → RepL (fun b => P b ∧ b ≠ a) H ds vs := by
        intro ds
        induction ds with
        | nil => intro vs _ _ h; simpa only [RepL] using h
        | cons d ds ihd =>
          intro vs h1 h2 h
          simp only [RepL] at h ⊢
          obtain ⟨w, r, rfl, r1, r2⟩ := h
          simp only [List.cons.sizeOf_spec] at h1 h2
          exact ⟨w, r, rfl, ih d w (by omega) (by omega) r1, ihd r (by omega) (by omega) r2⟩
      have ihK : ∀ (ds : List (D × D)) (vs : List (D × V)), sizeOf ds ≤ n + 1 → sizeOf ds < sizeOf e → RepKV P H ds vs → RepKV (fun b => P b ∧ b ≠ a) H ds vs := by
        intro ds
        induction ds with
        | nil => intro vs _ _ h; simpa only [RepKV] using h
        | cons d ds ihd =>
          intro vs h1 h2 h
          obtain ⟨k, d⟩ := d
          simp only [RepKV] at h ⊢
          obtain ⟨w, r, rfl, r1, r2⟩ := h
          simp only [List.cons.sizeOf_spec, Prod.mk.sizeOf_spec] at h1 h2
          exact ⟨w, r, rfl, ih d w (by omega) (by omega) r1, ihd r (by omega) (by omega) r2⟩
      intro d v h1 h2 h
      cases d with
      | non => simpa only [Rep] using h
      | bl => simpa only [Rep] using h
      | int => simpa only [Rep] using h
      | str => simpa only [Rep] using h
      | scr => simpa only [Rep] using h
      | fn => simp only [Rep] at h
      | tup ds =>
        simp only [Rep] at h ⊢
        obtain ⟨b, vs, rfl, q1, q2⟩ := h
        simp only [D.tup.sizeOf_spec] at h1 h2
        exact ⟨b, vs, rfl, q1, ihL ds vs (by omega) (by omega) q2⟩
      | lst ds =>
        have hh := h
        simp only [Rep] at h ⊢
        obtain ⟨b, vs, rfl, q0, q1, q2⟩ := h
        have := key _ b hh h2
        simp only [D.lst.sizeOf_spec] at h1 h2
        exact ⟨b, vs, rfl, ⟨q0, this⟩, q1, ihL ds vs (by omega) (by omega) q2⟩
      | dic t ds =>
        have hh := h
        simp only [Rep] at h ⊢
        obtain ⟨b, vs, rfl, q0, q1, q2⟩ := h
        have := key _ b hh h2
        simp only [D.dic.sizeOf_spec] at h1 h2
        exact ⟨b, vs, rfl, ⟨q0, this⟩, q1, ihK ds vs (by omega) (by omega) q2⟩
  exact go (sizeOf d) d v (Nat.le_refl _) hlt h
/-- a new list or dict: what lies within it lies elsewhere -/
theorem Rep.newTop {mg : Str → Option Value} {P : Addr → Prop} {H : Hp} {d : D} {a : Addr} (h : Rep P H d (.ref a)) (m : isMut d = true) : RepB mg (fun b => P b ∧ b ≠ a) H d (.ref a) := by
  cases d <;> simp only [isMut] at m <;> first | (cases m; done) | skip
  · rename_i xs
    have hh := h
    simp only [Rep] at h
    obtain ⟨b, vs, e, q0, q1, q2⟩ := h
    cases e
    simp only [RepB]
    refine ⟨a, vs, rfl, q1, ?_⟩
    have : ∀ (ds : List D) (ws : List V), sizeOf ds < sizeOf (D.lst xs) → RepL P H ds ws → RepL (fun b => P b ∧ b ≠ a) H ds ws := by
      intro ds
      induction ds with
      | nil => intro ws _ r; simpa only [RepL] using r
      | cons d ds ih =>
        intro ws hl r
        simp only [RepL] at r ⊢
        obtain ⟨w, rr, rfl, r1, r2⟩ := r
        simp only [List.cons.sizeOf_spec] at hl
        exact ⟨w, rr, rfl, Rep.inner d w _ (by omega) hh (by rw [q1]; rfl) (fun vs z => by rw [q1] at z; cases z) r1, ih rr (by omega) r2⟩
    exact this xs vs (by simp only [D.lst.sizeOf_spec]; omega) q2
  · rename_i t xs
    have hh := h
    simp only [Rep] at h
    obtain ⟨b, ps, e, q0, q1, q2⟩ := h
    cases e
    simp only [RepB]
    refine ⟨a, ps, rfl, q1, ?_⟩
    have nt : ∀ vs, H a ≠ some (.tup vs) := fun vs z => (q1.obj z).1 vs rfl
    have hs : (H a).isSome = true := Option.isSome_iff_ne_none.mpr q1.some
    have : ∀ (ds : List (D × D)) (ws : List (D × V)), sizeOf ds < sizeOf (D.dic t xs) → RepKV P H ds ws → RepKV (fun b => P b ∧ b ≠ a) H ds ws := by
      intro ds
      induction ds with
      | nil => intro ws _ r; simpa only [RepKV] using r
      | cons d ds ih =>
        intro ws hl r
        obtain ⟨k, d⟩ := d
        simp only [RepKV] at r ⊢
        obtain ⟨w, rr, rfl, r1, r2⟩ := r
        simp only [List.cons.sizeOf_spec, Prod.mk.sizeOf_spec] at hl
        exact ⟨w, rr, rfl, Rep.inner d w _ (by omega) hh hs nt r1, ih rr (by omega) r2⟩
    exact this xs ps (by simp only [D.dic.sizeOf_spec]; omega) q2
end
end RE
/-! RE10: own slots; if, for, while, return. -/
namespace RE
open PySem PySem.Spec PyProof.Rows L2

section
variable {X : Cx} {ks : Ks} {F : Fn} {pos : Pos}
/-- the allowed places shrink, the heap grows -/
theorem SR.shrink {mg : Str → Option Value} {Hb : Hp} {Pe P P' : Addr → Prop} {H H' : Hp} {σ : L2.St} {ρ : RE.Env} (h : SR mg Hb Pe P ks H σ ρ) (s : Same H H') (sub : ∀ a, P' a → P a) (ext : ∀ a, H a ≠ none → P a → P' a) (fr : Fre P' H') : SR mg Hb Pe P' ks H' σ ρ where
  freE := h.freE
  sub := fun a p => h.sub a (sub a p)
  fre := fr
  keep := h.keep.trans s
  er := h.er.mono s ext
  own := fun i d hk e m => by
    obtain ⟨a, h1, h2, h3, h4⟩ := (h.same s).own i d hk e m
    exact ⟨a, h1, h2, fun p => h3 (sub a p), h4⟩
  dist := h.dist
  bord := h.bord
  nofn := h.nofn
theorem Frm.shrink {P P' : Addr → Prop} {H H' : Hp} {σ : L2.St} {ρ : RE.Env} (s : Same H H') (sub : ∀ a, P' a → P a) (ext : ∀ a, H a ≠ none → P a → P' a) : Frm ks P H σ ρ P' H' σ ρ :=
  ⟨sub, ext, fun _ _ => ⟨rfl, rfl⟩, fun b o e _ => s b o e, fun c h z => h (s.free z)⟩
/-- what may be stored in a slot, and where it stands apart -/
def Fits (mg : Str → Option Value) (Hb : Hp) (P : Addr → Prop) (ks : Ks) (H : Hp) (σ : L2.St) (ρ : RE.Env) (i : Nat) (d : D) (v : V) : Prop :=
  match kd ks i with
  | .F => Rep P H d v
  | .M => (RepB mg P H d v ∧ ∀ g, d ≠ .fn g) ∧ (isMut d = true → ∃ a, v = .ref a ∧ Hb a = none ∧ ¬ P a ∧ Chg (H a) ∧ ∀ j e, j ≠ i → (kd ks j = .M ∨ kd ks j = .L) → ρ[j]? = some (some e) → isMut e = true → σ[j]? ≠ some (some (.ref a)))
  | _ => False
theorem SR.set {mg : Str → Option Value} {Hb : Hp} {Pe P : Addr → Prop} {H : Hp} {σ : L2.St} {ρ : RE.Env} {i : Nat} {d : D} {v : V} (h : SR mg Hb Pe P ks H σ ρ) (f : Fits mg Hb P ks H σ ρ i d v) : SR mg Hb Pe P ks H (σ.set i (some v)) (ρ.set i (some d)) := by
  unfold Fits at f
  cases hk : kd ks i with
  | F =>
    rw [hk] at f
    exact h.assign (is := [i]) (by simp [hk]) (h.er.set (by rw [hk]; exact f)) (fun j hj => List.getElem?_set_ne (by simpa [eq_comm] using hj)) fun j hj => List.getElem?_set_ne (by simpa [eq_comm] using hj)
  | L => rw [hk] at f; exact f.elim
  | B => rw [hk] at f; exact f.elim
  | M =>
    rw [hk] at f
    obtain ⟨⟨r, nf⟩, fm⟩ := f
    have at_i : ∀ {e : D}, (ρ.set i (some d))[i]? = some (some e) → e = d ∧ i < σ.length := fun {e} q => by
      have hi : i < ρ.length := by
        rw [← List.length_set (i := i) (a := some d)]
        exact (List.getElem?_eq_some_iff.mp q).1
      rw [List.getElem?_set_self hi] at q
      cases q
      exact ⟨rfl, by rw [← h.er.1]; exact hi⟩
    have ne_i : ∀ {j : Nat} {e : D}, j ≠ i → (ρ.set i (some d))[j]? = some (some e) → ρ[j]? = some (some e) := fun {j e} hj q => by rwa [List.getElem?_set_ne (Ne.symm hj)] at q
    refine ⟨h.freE, h.sub, h.fre, h.keep, h.er.set (by rw [hk]; exact r), fun j e hj q m => ?_, fun j k e e' a jk hj hk' q q' m m' s s' => ?_, fun j e a hj q m s => ?_, fun j g hj q => ?_⟩
    · by_cases c : j = i
      · subst c
        obtain ⟨rfl, hi⟩ := at_i q
        obtain ⟨a, rfl, h1, h2, h3, _⟩ := fm m
        exact ⟨a, List.getElem?_set_self hi, h1, h2, fun _ => h3⟩
      · obtain ⟨a, h1, h2⟩ := h.own j e hj (ne_i c q) m
        exact ⟨a, by rw [List.getElem?_set_ne (Ne.symm c)]; exact h1, h2⟩
    · by_cases c : j = i
      · subst c
        obtain ⟨rfl, hi⟩ := at_i q
        obtain ⟨b, rfl, _, _, _, ap⟩ := fm m
        rw [List.getElem?_set_self hi] at s
        cases s
        have c2 : k ≠ j := Ne.symm jk
        rw [List.getElem?_set_ne (Ne.symm c2)] at s'
        exact ap k e' c2 hk' (ne_i c2 q') m' s'
      · by_cases c2 : k = i
        · subst c2
          obtain ⟨rfl, hi⟩ := at_i q'
          obtain ⟨b, rfl, _, _, _, ap⟩ := fm m'
          rw [List.getElem?_set_self hi] at s'
          cases s'
          rw [List.getElem?_set_ne (Ne.symm c)] at s
          exact ap j e c hj (ne_i c q) m s
        · rw [List.getElem?_set_ne (Ne.symm c)] at s
          rw [List.getElem?_set_ne (Ne.symm c2)] at s'
          exact h.dist j k e e' a jk hj hk' (ne_i c q) (ne_i c2 q') m m' s s'
    · have c : j ≠ i := fun z => by rw [z, hk] at hj; cases hj
      rw [List.getElem?_set_ne (Ne.symm c)] at s
      exact h.bord j e a hj (ne_i c q) m s
    · by_cases c : j = i
      · subst c
        obtain ⟨e, _⟩ := at_i q
        exact nf g e.symm
      · exact h.nofn j g hj (ne_i c q)
theorem Frm.set {P : Addr → Prop} {H : Hp} {σ : L2.St} {ρ : RE.Env} {i : Nat} {d : D} {v : V} (hi : kd ks i = .F ∨ kd ks i = .M) : Frm ks P H σ ρ P H (σ.set i (some v)) (ρ.set i (some d)) :=
  ⟨fun _ p => p, fun _ _ p => p, fun j hj => have c : i ≠ j := fun z => by subst z; rcases hi with z | z <;> rw [z] at hj <;> rcases hj with y | y <;> cases y
    ⟨List.getElem?_set_ne c, List.getElem?_set_ne c⟩, fun _ _ e _ => e, fun _ h => h⟩
/-- a place where nothing stood is no slot's -/
theorem SR.apart {mg : Str → Option Value} {Hb : Hp} {Pe P : Addr → Prop} {H : Hp} {σ : L2.St} {ρ : RE.Env} (h : SR mg Hb Pe P ks H σ ρ) {a : Addr} (n : H a = none) : ∀ j e, (kd ks j = .M ∨ kd ks j = .L) → ρ[j]? = some (some e) → isMut e = true → σ[j]? ≠ some (some (.ref a)) := fun j e hj q m s => by
  obtain ⟨v, e1, r⟩ := h.er.2 j e q
  rw [s] at e1; cases e1
  have rb := r.toB
  cases e <;> simp only [isMut] at m <;> first | (cases m; done) | skip
  · obtain ⟨b, vs, e, hb, _⟩ := rb.lst; cases e; rw [n] at hb; cases hb
  · obtain ⟨b, ps, e, hb, _⟩ := rb.dic; cases e; exact hb.some n
/-- its list or dict is not locked -/
def Unl (H : Hp) (d : D) (v : V) : Prop := isMut d = true → ∀ a, v = .ref a → Chg (H a)
/-- e gives f: a new object, not locked -/
structure EvM (X : Cx) (ks : Ks) (F : Fn) (e : Expr) (f : SE) : Prop where
  ex : ∃ t : TE, PE X e t ∧ ∀ σ H, Cn X.mg H ks F f σ (fun P d v H' => Rep P H' d v ∧ TopNew H d v ∧ Unl H' d v) t
def cND (f : SE) : SE := fun F ρ => (f F ρ).bind fun d => if isDic d then none else some d
theorem EvN.toM {e : Expr} {f : SE} (h : EvN X ks F e f) : EvM X ks F e (cND f) := by
  obtain ⟨t, p, q⟩ := h.ex
  refine ⟨t, p, fun σ H P ρ Q d fr er ev k => ?_⟩
  obtain ⟨x, e1, e2⟩ := Option.bind_eq_some_iff.mp ev
  split at e2
  · cases e2
  · rename_i hd
    cases e2
    refine q σ H P ρ Q d fr er e1 fun v H' s r => k v H' s ⟨r.1, r.2, fun hm a ea => ?_⟩
    cases d <;> simp only [isMut] at hm <;> first | (cases hm; done) | skip
    · subst ea
      have r1 := r.1
      simp only [Rep] at r1
      obtain ⟨b, vs, e, _, h1, _⟩ := r1
      cases e
      rw [h1]; trivial
    · exact absurd rfl hd
/-- a new value for an own slot, told apart: the places allowed behind it -/
theorem new_fits {mg : Str → Option Value} {Hb : Hp} {Pe P : Addr → Prop} {H H' : Hp} {σ : L2.St} {ρ : RE.Env} {i : Nat} {d : D} {v : V} (h : SR mg Hb Pe P ks H σ ρ) (hk : kd ks i = .M) (s : Same H H') (r : Rep P H' d v) (tn : TopNew H d v) (un : Unl H' d v) :
    ∃ P', (∀ a, P' a → P a) ∧ (∀ a, H a ≠ none → P a → P' a) ∧ Fre P' H' ∧ Fits mg Hb P' ks H' σ ρ i d v ∧ ∀ a, v = .ref a → isMut d = true → ¬ P' a := by
  cases hm : isMut d with
  | false =>
    refine ⟨P, fun _ p => p, fun _ _ p => p, h.fre.same s, ?_, fun a _ z => by cases z⟩
    unfold Fits
    rw [hk]
    exact ⟨⟨r.toB, fun g e => by subst e; simp only [Rep] at r⟩, fun z => by rw [hm] at z; cases z⟩
  | true =>
    obtain ⟨a, rfl, na⟩ : ∃ a, v = .ref a ∧ H a = none := by
      cases d <;> simp only [isMut] at hm <;> first | (cases hm; done) | skip
      · simp only [Rep] at r; obtain ⟨a, vs, rfl, _⟩ := r
        exact ⟨a, rfl, tn a rfl⟩
      · simp only [Rep] at r; obtain ⟨a, ps, rfl, _⟩ := r
        exact ⟨a, rfl, tn a rfl⟩
    have ch := un hm a rfl
    refine ⟨fun b => P b ∧ b ≠ a, fun b p => p.1, fun b hb p => ⟨p, fun z => hb (z ▸ na)⟩, fre_minus (h.fre.same s) (fun z => by rw [z] at ch; exact ch), ?_, fun b eb _ p => p.2 (by cases eb; rfl)⟩
    unfold Fits
    rw [hk]
    exact ⟨⟨r.newTop hm, fun g e => by subst e; cases hm⟩, fun _ => ⟨a, rfl, h.keep.free na, fun z => z.2 rfl, ch, fun j e _ hj q m => h.apart na j e hj q m⟩⟩
def sSetM (i : Nat) (f : SE) : SS := fun F ρ => (f F ρ).map fun d => .nx (ρ.set i (some d))
theorem evS_setM {i : Nat} {x : Str} {e : Expr} {f : SE} {pos' : Pos} (hN : X.N.Nodup) (hi : X.N[i]? = some x) (hx : Loc X.env.scope x) (hk : kd ks i = .M) (he : EvM X ks F e f) (hs : swapsWith e (some (.Name x pos')) pos.line X.env = pure false) (hf : X.fn x = true ∨ X.env.scope.names.lookup x = some .local) :
    EvS X ks F (.Assign [.Name x pos'] e pos) (sSetM i f) := by
  obtain ⟨t, p, q⟩ := he.ex
  refine ⟨tAsg t (gName i), ps_set hN hi hx p hs hf, fun Hb Pe P H σ ρ D r sr ev k => ?_⟩
  obtain ⟨d, e1, rfl⟩ := Option.map_eq_some_iff.mp ev
  refine q σ H P ρ _ d sr.fre sr.er e1 fun v H1 s1 ⟨r1, tn, un⟩ => ?_
  obtain ⟨P', sub, ext, fr', ft, _⟩ := new_fits sr hk s1 r1 tn un
  exact k P' _ H1 ((sr.shrink s1 sub ext fr').set ft) ((Frm.shrink s1 sub ext).trans (Frm.set (.inr hk)))
/-- x = x if c else e, where x is the frame's own -/
theorem set_here {α : Type} {l : List α} {i : Nat} {x : α} (h : l[i]? = some x) : l.set i x = l := by
  apply List.ext_getElem?
  intro j
  by_cases c : i = j
  · subst c
    rw [List.getElem?_set_self (List.getElem?_eq_some_iff.mp h).1, h]
  · rw [List.getElem?_set_ne c]
def sSetIf (i : Nat) (c : SB) (f : SE) : SS := fun F ρ => (c F ρ).bind fun b => if b then (cV i F ρ).map fun _ => .nx ρ else (f F ρ).map fun d => .nx (ρ.set i (some d))
theorem evS_setIf {i : Nat} {x : Str} {c e : Expr} {g : SB} {f : SE} {pos' pos2 pos3 : Pos} (hN : X.N.Nodup) (hi : X.N[i]? = some x) (hx : Loc X.env.scope x) (hv : Vis X.env.scope x) (hd : (x == ("__debug__" : Str)) = false) (hcd : (x == ("__classdict__" : Str)) = false) (hk : kd ks i = .M) (hc : EvT X ks F c g) (he : EvM X ks F e f) (hf : X.fn x = true ∨ X.env.scope.names.lookup x = some .local) :
    EvS X ks F (.Assign [.Name x pos'] (.IfExp c (.Name x pos2) e pos3) pos) (sSetIf i g f) := by
  obtain ⟨tc, pc, qc⟩ := hc.ex
  obtain ⟨t, p, q⟩ := he.ex
  refine ⟨tAsg (tIf tc (tVar i) t) (gName i), ps_set hN hi hx (pe_ifExp pc (pe_var hi hv hd hcd) p) rfl hf, fun Hb Pe P H σ ρ D r sr ev k => ?_⟩
  obtain ⟨b, e1, e2⟩ := Option.bind_eq_some_iff.mp ev
  refine qc σ H P ρ _ b sr.fre sr.er e1 fun H1 s1 => ?_
  cases b with
  | true =>
    rw [if_pos rfl] at e2
    refine iteT ?_
    obtain ⟨d, e3, rfl⟩ := Option.map_eq_some_iff.mp e2
    obtain ⟨v, e4, _⟩ := (sr.same s1).er.2 i d (cV_some e3)
    refine ⟨v, e4, ?_⟩
    show D.nx (σ.set i (some v)) H1
    rw [set_here e4]
    exact k P σ H1 (sr.same s1) (Frm.of_same s1)
  | false =>
    rw [if_neg Bool.false_ne_true] at e2
    refine iteF ?_
    obtain ⟨d, e3, rfl⟩ := Option.map_eq_some_iff.mp e2
    refine q σ H1 P ρ _ d (sr.fre.same s1) (sr.er.same s1) e3 fun v H2 s2 ⟨r1, tn, un⟩ => ?_
    obtain ⟨P', sub, ext, fr', ft, _⟩ := new_fits (sr.same s1) hk s2 r1 tn un
    exact k P' _ H2 (((sr.same s1).shrink s2 sub ext fr').set ft) ((Frm.of_same s1).trans ((Frm.shrink s2 sub ext).trans (Frm.set (.inr hk))))

/-! ### own lists and dicts are changed -/
theorem RepB.chg {mg : Str → Option Value} {P : Addr → Prop} {H : Hp} {a : Addr} {o : HO} (c : Chg (H a)) (np : ¬ P a) {d : D} {v : V} (ne : isMut d = true → v ≠ .ref a) (h : RepB mg P H d v) : RepB mg P (upd H a o) d v := by
  cases d <;> simp only [RepB] at h ⊢ <;> first | exact h | exact Rep.chg c np _ _ h | skip
  · obtain ⟨b, vs, rfl, h1, h2⟩ := h
    have nb : b ≠ a := fun z => ne rfl (by rw [z])
    exact ⟨b, vs, rfl, by rw [upd_ne nb]; exact h1, RepL.chg c np _ _ h2⟩
  · obtain ⟨b, ps, rfl, h1, h2⟩ := h
    have nb : b ≠ a := fun z => ne rfl (by rw [z])
    exact ⟨b, ps, rfl, h1.upd_ne nb, RepKV.chg c np _ _ h2⟩
theorem at_set {ρ : RE.Env} {i j : Nat} {d d' e : D} (h : ρ[i]? = some (some d)) (m : isMut d = true) (q : (ρ.set i (some d'))[j]? = some (some e)) (m' : isMut e = true) : ∃ e', ρ[j]? = some (some e') ∧ isMut e' = true := by
  by_cases c : i = j
  · subst c; exact ⟨d, h, m⟩
  · rw [List.getElem?_set_ne c] at q; exact ⟨e, q, m'⟩
theorem SR.mut {mg : Str → Option Value} {Hb : Hp} {Pe P : Addr → Prop} {H : Hp} {σ : L2.St} {ρ : RE.Env} {i : Nat} {d d' : D} {a : Addr} {o : HO} (h : SR mg Hb Pe P ks H σ ρ) (hk : kd ks i = .M) (e : ρ[i]? = some (some d)) (m : isMut d = true) (s : σ[i]? = some (some (.ref a))) (ch : Chg (some o)) (r : RepB mg P (upd H a o) d' (.ref a)) (m2 : isMut d' = true) :
    SR mg Hb Pe P ks (upd H a o) σ (ρ.set i (some d')) ∧ Frm ks P H σ ρ P (upd H a o) σ (ρ.set i (some d')) := by
  obtain ⟨b, s', hb, np, hc⟩ := h.own i d (.inl hk) e m
  rw [s] at s'; cases s'
  have c := hc hk
  have top : ∀ j x, i ≠ j → ρ[j]? = some (some x) → isMut x = true → kd ks j ≠ .F → σ[j]? ≠ some (some (.ref a)) := fun j x ij q mx kj z => by
    cases kj2 : kd ks j with
    | F => exact kj kj2
    | M => exact h.dist i j d x a ij (.inl hk) (.inl kj2) e q m mx s z
    | L => exact h.dist i j d x a ij (.inl hk) (.inr kj2) e q m mx s z
    | B => exact h.bord j x a kj2 q mx z hb
  have some_a : (upd H a o) a ≠ none := by rw [upd_same]; simp
  constructor
  · refine ⟨h.freE, h.sub, fun b z => h.fre b ?_, fun b x q => ?_, ⟨by rw [List.length_set]; exact h.er.1, fun j x q => ?_⟩, fun j x kj q mx => ?_, fun j l x y b jl kj kl q q' mx my z z' => ?_, fun j x b kj q mx z => ?_, fun j g kj q => ?_⟩
    · have nb : b ≠ a := fun y => some_a (y ▸ z)
      rwa [upd_ne nb] at z
    · have nb : b ≠ a := fun y => by rw [y, hb] at q; cases q
      rw [upd_ne nb]; exact h.keep b x q
    · by_cases ij : i = j
      · subst ij
        have hi : i < ρ.length := (List.getElem?_eq_some_iff.mp e).1
        rw [List.getElem?_set_self hi] at q
        cases q
        exact ⟨_, s, by rw [hk]; exact r⟩
      · rw [List.getElem?_set_ne ij] at q
        obtain ⟨v, e1, r1⟩ := h.er.2 j x q
        refine ⟨v, e1, ?_⟩
        cases kj : kd ks j with
        | F => rw [kj] at r1; exact Rep.chg c np _ _ r1
        | M => rw [kj] at r1; exact RepB.chg c np (fun mx z => top j x ij q mx (by rw [kj]; nofun) (by rw [e1, z])) r1
        | L => rw [kj] at r1; exact RepB.chg c np (fun mx z => top j x ij q mx (by rw [kj]; nofun) (by rw [e1, z])) r1
        | B => rw [kj] at r1; exact RepB.chg c np (fun mx z => top j x ij q mx (by rw [kj]; nofun) (by rw [e1, z])) r1
    · obtain ⟨x', q', mx'⟩ := at_set e m q mx
      obtain ⟨b, z1, z2, z3, z4⟩ := h.own j x' kj q' mx'
      refine ⟨b, z1, z2, z3, fun kj2 => ?_⟩
      by_cases ba : b = a
      · rw [ba, upd_same]; exact ch
      · rw [upd_ne ba]; exact z4 kj2
    · obtain ⟨x', p1, p2⟩ := at_set e m q mx
      obtain ⟨y', p3, p4⟩ := at_set e m q' my
      exact h.dist j l x' y' b jl kj kl p1 p3 p2 p4 z z'
    · obtain ⟨x', p1, p2⟩ := at_set e m q mx
      exact h.bord j x' b kj p1 p2 z
    · by_cases ij : i = j
      · subst ij
        have hi : i < ρ.length := (List.getElem?_eq_some_iff.mp e).1
        rw [List.getElem?_set_self hi] at q
        cases q; cases m2
      · rw [List.getElem?_set_ne ij] at q
        exact h.nofn j g kj q
  · refine ⟨fun _ p => p, fun _ _ p => p, fun j hj => ⟨rfl, List.getElem?_set_ne fun z => by subst z; rw [hk] at hj; rcases hj with y | y <;> cases y⟩, fun b x q hx => ?_, fun b q => ?_⟩
    · have nb : b ≠ a := fun y => by
        subst y
        rcases hx with (p | ⟨j, x', kj, z1, z2, z3⟩) | hx
        · exact np p
        · exact top j x' (fun y => by subst y; rw [hk] at kj; rcases kj with y | y <;> cases y) z2 z3 (by rcases kj with y | y <;> rw [y] <;> nofun) z1
        · rw [q] at c; exact hx c
      rw [upd_ne nb]; exact q
    · by_cases ba : b = a
      · rw [ba]; exact some_a
      · rw [upd_ne ba]; exact q
theorem RepL.snoc {P : Addr → Prop} {H : Hp} {d : D} {v : V} (r : Rep P H d v) : ∀ {ds : List D} {vs : List V}, RepL P H ds vs → RepL P H (ds ++ [d]) (vs ++ [v])
  | [], vs, h => by
    simp only [RepL] at h
    subst h
    simp only [List.nil_append, RepL]
    exact ⟨v, [], rfl, r, rfl⟩
  | d1 :: ds, vs, h => by
    simp only [RepL] at h
    obtain ⟨w, rr, rfl, h1, h2⟩ := h
    simp only [List.cons_append, RepL]
    exact ⟨w, rr ++ [v], rfl, h1, RepL.snoc r h2⟩
def sApp (i : Nat) (f : SE) : SS := fun F ρ => (f F ρ).bind fun d => match cV i F ρ with
  | some (.lst xs) => if fits (xs.length + 1) then some (.nx (ρ.set i (some (.lst (xs ++ [d]))))) else none
  | _ => none
theorem evS_app {i : Nat} {x : Str} {e : Expr} {f : SE} {xp ap cp : Pos} (hi : X.N[i]? = some x) (hv : Vis X.env.scope x) (hd : (x == ("__debug__" : Str)) = false) (hcd : (x == ("__classdict__" : Str)) = false) (hk : kd ks i = .M) (hn : noStar e = true) (he : EvE X ks F e f)
    (hbase : attributeBase (.Name x xp) "append" X.env (eval (.Name x xp) X.env) = eval (.Name x xp) X.env) (hline : (ap.endLine == cp.line) = true) :
    EvS X ks F (.Expr (.Call (.Attribute (.Name x xp) "append" ap) [e] [] cp) pos) (sApp i f) := by
  obtain ⟨t, p, q⟩ := he.ex
  refine ⟨tDrop (tBM X.K "list" rAppend (tVar i) (tCons t tNil)), ps_expr (pe_bm PySem.F.plainAttrs_list PySem.F.slot_list_append PySem.F.type_list_append mt_append (pe_var hi hv hd hcd) (pa_cons p pa_nil (starEach_cons (noStar_ne hn))) hbase
    (by rw [starEach_cons (noStar_ne hn)]; rfl) hline (starEach_cons (noStar_ne hn)) rfl) rfl, fun Hb Pe P H σ ρ D r sr ev k => ?_⟩
  obtain ⟨d, e1, e2⟩ := Option.bind_eq_some_iff.mp ev
  split at e2
  · rename_i xs e3
    split at e2
    · rename_i hf
      cases e2
      have e4 := cV_some e3
      obtain ⟨v, e5, r5⟩ := sr.er.2 i _ e4
      have r5' := r5
      rw [hk] at r5'
      simp only [RepK, RepB] at r5'
      obtain ⟨a, vs, rfl, h1, h2⟩ := r5'
      refine ⟨.ref a, e5, .inl ⟨rfl, vs, .inl (.inl h1)⟩, ?_⟩
      refine q σ H P ρ _ d sr.fre sr.er e1 fun w H1 s1 r1 => ?_
      have hl := h2.len
      have hf := of_decide_eq_true hf
      refine ⟨a, vs, w, rfl, rfl, s1 _ _ h1, by omega, ?_⟩
      have sr1 := sr.same s1
      obtain ⟨b, q1, q2, q3, q4⟩ := sr1.own i _ (.inl hk) e4 rfl
      rw [e5] at q1; cases q1
      obtain ⟨sr2, fm⟩ := sr1.mut (d' := .lst (xs ++ [d])) (o := .lst (vs ++ [w])) hk e4 rfl e5 trivial (by
        simp only [RepB]
        exact ⟨a, _, rfl, upd_same, RepL.snoc (Rep.chg (q4 hk) q3 _ _ r1) (RepL.chg (q4 hk) q3 _ _ (h2.same s1))⟩) rfl
      exact k P σ _ sr2 ((Frm.of_same s1).trans fm)
    · cases e2
  · cases e2
end
end RE
/-! RE11: stores, if, for, while, return. -/
namespace RE
open PySem PySem.Spec PyProof.Rows L2
section
variable {X : Cx} {ks : Ks} {F : Fn} {pos : Pos}

/-! ### x = [..] on one line -/
theorem evS_swF {i : Nat} {x : Str} {e : Expr} {f : SE} {py : Pos} (hi : X.N[i]? = some x) (hl : X.env.scope.names.lookup x = some .local) (hk : kd ks i = .F) (hs : swapsWith e (some (.Name x py)) pos.line X.env = pure true) (he : EvNS X ks F e f) : EvS X ks F (.Assign [.Name x py] e pos) (sAsg f (gN i)) := by
  obtain ⟨t, ⟨_, p⟩, q⟩ := he.ex
  refine ⟨tAsg t (gName i), p i x py pos hi hl hs, fun Hb Pe P H σ ρ D r sr ev k => ?_⟩
  obtain ⟨d, e1, e2⟩ := Option.bind_eq_some_iff.mp ev
  obtain ⟨ρ', e3, rfl⟩ := Option.map_eq_some_iff.mp e2
  cases e3
  refine q σ H P ρ _ d sr.fre sr.er e1 fun v H1 s1 r1 => ?_
  exact k P _ H1 ((sr.same s1).set (by unfold Fits; rw [hk]; exact r1.1)) ((Frm.of_same s1).trans (Frm.set (.inl hk)))
theorem unl_of {P : Addr → Prop} {H : Hp} {d : D} {v : V} (r : Rep P H d v) (h : isDic d = false) : Unl H d v := fun hm a ea => by
  cases d <;> simp only [isMut] at hm <;> first | (cases hm; done) | skip
  · subst ea
    simp only [Rep] at r
    obtain ⟨b, vs, e, _, h1, _⟩ := r
    cases e
    rw [h1]; trivial
  · cases h
theorem evS_swM {i : Nat} {x : Str} {e : Expr} {f : SE} {py : Pos} (hi : X.N[i]? = some x) (hl : X.env.scope.names.lookup x = some .local) (hk : kd ks i = .M) (hs : swapsWith e (some (.Name x py)) pos.line X.env = pure true) (he : EvNS X ks F e f) : EvS X ks F (.Assign [.Name x py] e pos) (sSetM i (cND f)) := by
  obtain ⟨t, ⟨_, p⟩, q⟩ := he.ex
  refine ⟨tAsg t (gName i), p i x py pos hi hl hs, fun Hb Pe P H σ ρ D r sr ev k => ?_⟩
  obtain ⟨d, e0, rfl⟩ := Option.map_eq_some_iff.mp ev
  obtain ⟨d', e1, e2⟩ := Option.bind_eq_some_iff.mp e0
  split at e2
  · cases e2
  · rename_i hd
    cases e2
    refine q σ H P ρ _ d sr.fre sr.er e1 fun v H1 s1 ⟨r1, tn⟩ => ?_
    obtain ⟨P', sub, ext, fr', ft, _⟩ := new_fits sr hk s1 r1 tn (unl_of r1 (by simpa using hd))
    exact k P' _ H1 ((sr.shrink s1 sub ext fr').set ft) ((Frm.shrink s1 sub ext).trans (Frm.set (.inr hk)))

/-! ### x[i] = e -/
theorem RepL.upd {P : Addr → Prop} {H : Hp} {d : D} {v : V} (r : Rep P H d v) : ∀ {ds : List D} {vs : List V} (m : Nat), RepL P H ds vs → RepL P H (ds.set m d) (vs.set m v)
  | [], _, m, h => by simp only [RepL] at h; subst h; simp [RepL]
  | e :: ds, _, 0, h => by
    simp only [RepL] at h
    obtain ⟨w, rr, rfl, h1, h2⟩ := h
    simp only [List.set_cons_zero, RepL]
    exact ⟨v, rr, rfl, r, h2⟩
  | e :: ds, _, m + 1, h => by
    simp only [RepL] at h
    obtain ⟨w, rr, rfl, h1, h2⟩ := h
    simp only [List.set_cons_succ, RepL]
    exact ⟨w, _, rfl, h1, RepL.upd r m h2⟩
def putD (o k v : D) : Option D := match o with
  | .lst xs => match k with
    | .int n => (ixN xs.length n).map fun m => .lst (xs.set m v)
    | _ => none
  | .dic t kvs => if fits (kvs.length + 1) then (dput t kvs k v).map fun q => .dic t q else none
  | _ => none
/-- a store by values: what stands behind it -/
theorem putD_ok {mg : Str → Option Value} {P : Addr → Prop} {H : Hp} {o k v d : D} {a : Addr} {w z : V} (c : Chg (H a)) (np : ¬ P a) (ro : RepB mg P H o (.ref a)) (rk : RepB mg P H k w) (rv : Rep P H v z) (e : putD o k v = some d) :
    isMut o = true ∧ ∃ u, Chg (some u) ∧ (rSetL (.ref a) w z H (fun H' => H' = upd H a u) ∨ rSetD (.ref a) w z H fun H' => H' = upd H a u) ∧ RepB mg P (upd H a u) d (.ref a) := by
  cases o <;> simp only [putD] at e <;> first | (cases e; done) | skip
  · cases k <;> simp only at e <;> first | (cases e; done) | skip
    obtain ⟨m, e1, rfl⟩ := Option.map_eq_some_iff.mp e
    simp only [RepB] at ro rk
    obtain ⟨b, vs, eb, h1, h2⟩ := ro
    cases eb
    rename_i xs n
    refine ⟨rfl, .lst (vs.set m z), trivial, .inl ⟨a, vs, n, m, rfl, rk, h1, by rw [h2.len]; exact e1, rfl⟩, ?_⟩
    simp only [RepB]
    exact ⟨a, _, rfl, upd_same, RepL.chg c np _ _ (RepL.upd rv m h2)⟩
  · rename_i t kvs
    split at e
    · rename_i hf
      have hf := of_decide_eq_true hf
      obtain ⟨q, e1, rfl⟩ := Option.map_eq_some_iff.mp e
      obtain ⟨b, ps, eb, hd, hr⟩ := ro.dic
      cases eb
      cases t with
      | false =>
        obtain ⟨ks, rd, rfl⟩ := hd
        have hl := hr.len
        rw [List.length_map] at hl
        rcases rd with rd | ⟨ob, rd⟩
        · simp only [dput] at e1
          obtain ⟨q', e2, rfl⟩ := Option.map_eq_some_iff.mp e1
          have := keyA_some e2
          subst this
          have ew := rk.key
          refine ⟨rfl, .dK (putK ks q' z), trivial, .inr ⟨a, _, rfl, .inl ⟨ks, q', rd, ew, by omega, rfl⟩, rfl⟩, ?_⟩
          simp only [RepB]
          exact ⟨a, _, rfl, ⟨_, .inl upd_same, rfl⟩, RepKV.chg c np _ _ (kv_put keyA keyD keyA_keyD q' rv hr)⟩
        · rw [rd] at c; exact c.elim
      | true =>
        obtain ⟨ks, rd, rfl⟩ := hd
        have hl := hr.len
        rw [List.length_map] at hl
        rcases rd with rd | ⟨ob, rd⟩
        · simp only [dput] at e1
          obtain ⟨q', e2, rfl⟩ := Option.map_eq_some_iff.mp e1
          have := keyT_some e2
          subst this
          obtain ⟨b, vs, rfl, hb, hvs⟩ := rk.tup
          have := hvs.keys
          subst this
          refine ⟨rfl, .dT (putK ks q' z), trivial, .inr ⟨a, _, rfl, .inr ⟨ks, q', b, rd, rfl, hb, by omega, rfl⟩, rfl⟩, ?_⟩
          simp only [RepB]
          exact ⟨a, _, rfl, ⟨_, .inl upd_same, rfl⟩, RepKV.chg c np _ _ (kv_put keyT (fun ks => .tup (ks.map keyD)) (fun ks => keysA_map ks) q' rv hr)⟩
        · rw [rd] at c; exact c.elim
    · cases e
theorem putD_mut {o k v d : D} (e : putD o k v = some d) : isMut d = true := by
  cases o <;> simp only [putD] at e <;> first | (cases e; done) | skip
  · cases k <;> simp only at e <;> first | (cases e; done) | skip
    obtain ⟨m, e1, rfl⟩ := Option.map_eq_some_iff.mp e
    rfl
  · split at e
    · obtain ⟨q, e1, rfl⟩ := Option.map_eq_some_iff.mp e
      rfl
    · cases e
def plainKey : Expr → Bool
  | .Slice _ _ _ _ => false
  | _ => true
theorem assign_sub {o i : Expr} {p : Pos} (h : plainKey i = true) (env : PySem.Env) : ∀ v, assign (.Subscript o i p) env v = (do
      let ov ← holding [v] (eval o env)
      let iv ← holding [v, ov] (eval i env)
      standAt p
      holding [v, ov, iv] (setItem ov iv v)
      release [v, ov, iv] []) := by
  intro v
  cases i <;> first | rfl | cases h
theorem PSet.or2 {t u : TSet} (h : PSet X t) (g : PSet X u) : PSet X (fun o i v H Q => t o i v H Q ∨ u o i v H Q) := fun pins s σ H o i v ov iv w Q I r1 r2 r3 q => q.elim (h pins s σ H o i v ov iv w Q I r1 r2 r3) (g pins s σ H o i v ov iv w Q I r1 r2 r3)
def sPut (j : Nat) (f g : SE) : SS := fun F ρ => (g F ρ).bind fun v => (cV j F ρ).bind fun o => (f F ρ).bind fun k => (putD o k v).map fun d => .nx (ρ.set j (some d))
theorem evS_put {j : Nat} {x : Str} {e i : Expr} {f g : SE} {xp sp : Pos} (hu : X.A.units + 1 < cLine) (hi : X.N[j]? = some x) (hv : Vis X.env.scope x) (hd : (x == ("__debug__" : Str)) = false) (hcd : (x == ("__classdict__" : Str)) = false) (hk : kd ks j = .M) (hp : plainKey i = true)
    (he : EvE X ks F e g) (hf : EvP X ks F i f) (hs : swapsWithSole [.Subscript (.Name x xp) i sp] e pos.line X.env = pure false) (hw : swappedStores [.Subscript (.Name x xp) i sp] e X.env = pure none) :
    EvS X ks F (.Assign [.Subscript (.Name x xp) i sp] e pos) (sPut j f g) := by
  obtain ⟨t, p, q⟩ := he.ex
  obtain ⟨u, p', q'⟩ := hf.ex
  refine ⟨tAsg t (gSub (tVar j) u fun o i v H Q => rSetL o i v H Q ∨ rSetD o i v H Q), ps_asg p (pg_sub (pe_var hi hv hd hcd) p' (PSet.or2 set_list (set_dict hu)) (assign_sub hp X.env)) hs hw rfl, fun Hb Pe P H σ ρ D r sr ev k => ?_⟩
  obtain ⟨v, e1, ev1⟩ := Option.bind_eq_some_iff.mp ev
  obtain ⟨o, e2, ev2⟩ := Option.bind_eq_some_iff.mp ev1
  obtain ⟨kk, e3, ev3⟩ := Option.bind_eq_some_iff.mp ev2
  obtain ⟨d, e4, rfl⟩ := Option.map_eq_some_iff.mp ev3
  refine q σ H P ρ _ v sr.fre sr.er e1 fun z H1 s1 r1 => ?_
  have sr1 := sr.same s1
  have e5 := cV_some e2
  obtain ⟨w, e6, r6⟩ := sr1.er.2 j o e5
  rw [hk] at r6
  have hm : isMut o = true := by
    cases o <;> simp only [putD] at e4 <;> first | (cases e4; done) | rfl
  obtain ⟨a, q1, q2, q3, q4⟩ := sr1.own j o (.inl hk) e5 hm
  rw [e6] at q1; cases q1
  refine ⟨.ref a, e6, ?_⟩
  refine q' σ H1 P ρ _ kk sr1.fre sr1.er e3 fun y H2 s2 r2 => ?_
  have sr2 := sr1.same s2
  obtain ⟨a', q1', q2', q3', q4'⟩ := sr2.own j o (.inl hk) e5 hm
  rw [e6] at q1'; cases q1'
  obtain ⟨_, uo, cu, hst, rr⟩ := putD_ok (q4' hk) q3' (RepB.same s2 r6) r2 (r1.same s2) e4
  obtain ⟨sr3, fm⟩ := sr2.mut hk e5 hm e6 cu rr (putD_mut e4)
  have fin : D.nx σ (upd H2 a uo) := k P σ _ sr3 (((Frm.of_same s1).trans (Frm.of_same s2)).trans fm)
  rcases hst with ⟨p, xs, n, m, z1, z2, z3, z4, z5⟩ | ⟨b, H', z1, z2, z3⟩
  · exact .inl ⟨p, xs, n, m, z1, z2, z3, z4, by rw [z5]; exact fin⟩
  · exact .inr ⟨b, H', z1, z2, by rw [z3]; exact fin⟩

/-! ### x = y.pop() -/
def sPop (j i : Nat) : SS := fun F ρ => match cV i F ρ with
  | some (.lst xs) => (xs.getLast?).map fun d => .nx ((ρ.set i (some (.lst xs.dropLast))).set j (some d))
  | _ => none
theorem RepL.last {P : Addr → Prop} {H : Hp} {ds : List D} {vs : List V} (h : RepL P H ds vs) {d : D} (e : ds.getLast? = some d) : ∃ v, vs[vs.length - 1]? = some v ∧ Rep P H d v := by
  rw [List.getLast?_eq_getElem?] at e
  obtain ⟨v, e1, r⟩ := h.get e
  rw [h.len]
  exact ⟨v, e1, r⟩
theorem RepL.dropLast {P : Addr → Prop} {H : Hp} {ds : List D} {vs : List V} (h : RepL P H ds vs) : RepL P H ds.dropLast vs.dropLast := by
  rw [List.dropLast_eq_take, List.dropLast_eq_take, h.len]
  exact h.take _
theorem evS_pop {i j : Nat} {x y : Str} {xp yp ap cp : Pos} (hN : X.N.Nodup) (hi : X.N[i]? = some x) (hv : Vis X.env.scope x) (hd : (x == ("__debug__" : Str)) = false) (hcd : (x == ("__classdict__" : Str)) = false) (hk : kd ks i = .M)
    (hj : X.N[j]? = some y) (hy : Loc X.env.scope y) (hkj : kd ks j = .F) (hf : X.fn y = true ∨ X.env.scope.names.lookup y = some .local)
    (hbase : attributeBase (.Name x xp) "pop" X.env (eval (.Name x xp) X.env) = eval (.Name x xp) X.env) (hline : (ap.endLine == cp.line) = true) :
    EvS X ks F (.Assign [.Name y yp] (.Call (.Attribute (.Name x xp) "pop" ap) [] [] cp) pos) (sPop j i) := by
  refine ⟨tAsg (tBM0 X.K "list" rPop (tVar i)) (gName j), ps_set hN hj hy (pe_bm0 PySem.F.plainAttrs_list PySem.F.slot_list_pop PySem.F.type_list_pop mt_pop (pe_var hi hv hd hcd) hbase hline) rfl hf, fun Hb Pe P H σ ρ D r sr ev k => ?_⟩
  simp only [sPop] at ev
  split at ev
  · rename_i xs e1
    obtain ⟨d, e2, rfl⟩ := Option.map_eq_some_iff.mp ev
    have e3 := cV_some e1
    obtain ⟨v, e4, r4⟩ := sr.er.2 i _ e3
    rw [hk] at r4
    simp only [RepK, RepB] at r4
    obtain ⟨a, vs, rfl, h1, h2⟩ := r4
    obtain ⟨w, e5, r5⟩ := h2.last e2
    obtain ⟨b, q1, q2, q3, q4⟩ := sr.own i _ (.inl hk) e3 rfl
    rw [e4] at q1; cases q1
    refine ⟨.ref a, e4, .inl ⟨rfl, vs, .inl (.inl h1)⟩, a, vs, w, rfl, rfl, h1, e5, ?_⟩
    obtain ⟨sr1, fm⟩ := sr.mut (d' := .lst xs.dropLast) (o := .lst vs.dropLast) hk e3 rfl e4 trivial (by
      simp only [RepB]
      exact ⟨a, _, rfl, upd_same, RepL.chg (q4 hk) q3 _ _ h2.dropLast⟩) rfl
    have r6 : Rep P (upd H a (.lst vs.dropLast)) d w := Rep.chg (q4 hk) q3 _ _ r5
    exact k P _ _ (sr1.set (i := j) (by unfold Fits; rw [hkj]; exact r6)) (fm.trans (Frm.set (.inl hkj)))
  · cases ev

/-! ### if, pass, return -/
def sIf (c : SB) (f g : SS) : SS := fun F ρ => (c F ρ).bind fun b => if b then f F ρ else g F ρ
theorem evS_if {c : Expr} {a b : List Stmt} {h : SB} {f g : SS} (hc : EvT X ks F c h) (ha : EvSs X ks F a f) (hb : EvSs X ks F b g) : EvS X ks F (.If c a b pos) (sIf h f g) := by
  obtain ⟨t, p, q⟩ := hc.ex
  obtain ⟨ta, pa, qa⟩ := ha.ex
  obtain ⟨tb, pb, qb⟩ := hb.ex
  refine ⟨tIfS t ta tb, ps_if p pa pb, fun Hb Pe P H σ ρ D r sr ev k => ?_⟩
  obtain ⟨b, e1, e2⟩ := Option.bind_eq_some_iff.mp ev
  refine q σ H P ρ _ b sr.fre sr.er e1 fun H1 s1 => ?_
  cases b with
  | true => rw [if_pos rfl] at e2 ⊢; exact qa Hb Pe P H1 σ ρ D r (sr.same s1) e2 (k.after (Frm.of_same s1))
  | false => rw [if_neg Bool.false_ne_true] at e2 ⊢; exact qb Hb Pe P H1 σ ρ D r (sr.same s1) e2 (k.after (Frm.of_same s1))
theorem evS_pass : EvS X ks F (.Pass pos) sNil := ⟨tNext, ps_pass, fun Hb Pe P H σ ρ D r sr e k => by cases e; exact k P σ H sr Frm.refl⟩
theorem evS_doc {x j pos'} : EvS X ks F (.Expr (.Constant (.str x) j pos) pos') sNil := ⟨tNext, ps_doc, fun Hb Pe P H σ ρ D r sr e k => by cases e; exact k P σ H sr Frm.refl⟩
/-- own slots are shared from now on -/
def frzK : Kind → Kind
  | .M => .F
  | .L => .F
  | k => k
def frz (ks : Ks) : Ks := ks.map frzK
theorem kd_frz {i : Nat} : kd (frz ks) i = frzK (kd ks i) := by
  unfold kd frz
  rw [List.getD_eq_getElem?_getD, List.getD_eq_getElem?_getD, List.getElem?_map]
  cases ks[i]? <;> rfl
theorem SR.frozen {mg : Str → Option Value} {Hb : Hp} {Pe P : Addr → Prop} {H : Hp} {σ : L2.St} {ρ : RE.Env} (h : SR mg Hb Pe P ks H σ ρ) : ER mg Pe (frz ks) H σ ρ := by
  refine ⟨h.er.1, fun i d e => ?_⟩
  obtain ⟨v, e1, r⟩ := h.er.2 i d e
  refine ⟨v, e1, ?_⟩
  rw [kd_frz]
  have own : kd ks i = .M ∨ kd ks i = .L → RepB mg P H d v → (∀ g, d ≠ .fn g) → Rep Pe H d v := fun hk rb nf => by
    cases hm : isMut d with
    | true =>
      obtain ⟨a, q1, q2, _⟩ := h.own i d hk e hm
      rw [e1] at q1; cases q1
      have pa := h.freE a q2
      cases d <;> simp only [isMut] at hm <;> first | (cases hm; done) | skip
      · simp only [RepB] at rb
        obtain ⟨b, vs, eb, h1, h2⟩ := rb
        cases eb
        simp only [Rep]
        exact ⟨a, vs, rfl, pa, h1, h2.weak h.sub⟩
      · simp only [RepB] at rb
        obtain ⟨b, ps, eb, h1, h2⟩ := rb
        cases eb
        simp only [Rep]
        exact ⟨a, ps, rfl, pa, h1, h2.weak h.sub⟩
    | false =>
      cases d <;> simp only [isMut] at hm <;> first | (cases hm; done) | skip
      all_goals first | exact absurd rfl (nf _) | (simp only [RepB] at rb; simp only [Rep]; exact rb) | (simp only [RepB] at rb; exact Rep.weak h.sub rb)
  cases hk : kd ks i with
  | F => rw [hk] at r; exact Rep.weak h.sub r
  | B => rw [hk] at r; exact RepB.weak h.sub r
  | M => rw [hk] at r; exact own (.inl hk) r fun g z => h.nofn i g (.inl hk) (by rw [e, z])
  | L => rw [hk] at r; exact own (.inr hk) r fun g z => h.nofn i g (.inr hk) (by rw [e, z])
def sRet (f : SE) : SS := fun F ρ => (f F ρ).map (.rt false)
theorem evS_ret {e : Expr} {f : SE} (h : EvE X (frz ks) F e f) : EvS X ks F (.Return (some e) pos) (sRet f) := by
  obtain ⟨t, p, q⟩ := h.ex
  refine ⟨tRet t, ps_ret p, fun Hb Pe P H σ ρ D r sr ev k => ?_⟩
  obtain ⟨d, e1, rfl⟩ := Option.map_eq_some_iff.mp ev
  exact q σ H Pe ρ _ d (fun a ha => sr.sub a (sr.fre a ha)) sr.frozen e1 fun v H' s r => k v H' (sr.keep.trans s) r fun z => nomatch z
def sRetN : SS := fun _ _ => some (.rt true .non)
theorem evS_retN : EvS X ks F (.Return none pos) sRetN := ⟨tRetN, ps_retN, fun Hb Pe P H σ ρ D r sr ev k => by cases ev; exact k _ H sr.keep (by simp only [Rep]) fun _ => trivial⟩
/-- e gives f, at a def's end: a new object where it is a list or dict -/
structure EvR (X : Cx) (ks : Ks) (F : Fn) (e : Expr) (f : SE) : Prop where
  ex : ∃ t : TE, PE X e t ∧ ∀ Hb Pe P H σ ρ (Q : VK) d, SR X.mg Hb Pe P ks H σ ρ → f F ρ = some d → (∀ v H', Same H H' → Rep Pe H' d v ∧ TopNew Hb d v → Q v H') → t σ H Q
theorem EvN.toR {e : Expr} {f : SE} (h : EvN X (frz ks) F e f) : EvR X ks F e f := by
  obtain ⟨t, p, q⟩ := h.ex
  exact ⟨t, p, fun Hb Pe P H σ ρ Q d sr ev k => q σ H Pe ρ _ d (fun a ha => sr.sub a (sr.fre a ha)) sr.frozen ev fun v H' s r => k v H' s ⟨r.1, r.2.back sr.keep⟩⟩
theorem evR_var {i : Nat} {x : Str} {pos : Pos} (hN : X.N[i]? = some x) (hv : Vis X.env.scope x) (hk : kd ks i = .M) (hd : (x == ("__debug__" : Str)) = false) (hcd : (x == ("__classdict__" : Str)) = false) : EvR X ks F (.Name x pos) (cV i) := by
  refine ⟨tVar i, pe_var hN hv hd hcd, fun Hb Pe P H σ ρ Q d sr ev k => ?_⟩
  have e1 := cV_some ev
  obtain ⟨v, e, r⟩ := sr.frozen.2 i d e1
  rw [kd_frz, hk] at r
  refine ⟨v, e, k v H (Same.refl H) ⟨r, ?_⟩⟩
  cases hm : isMut d with
  | false => cases d <;> simp only [isMut] at hm <;> first | trivial | (cases hm; done)
  | true =>
    obtain ⟨a, q1, q2, _⟩ := sr.own i d (.inl hk) e1 hm
    rw [e] at q1; cases q1
    cases d <;> simp only [isMut] at hm <;> first | (cases hm; done) | (simp only [TopNew]; intro b eb; cases eb; exact q2)
theorem evR_if {c a b : Expr} {h : SB} {f g : SE} {pos : Pos} (hc : EvT X (frz ks) F c h) (ha : EvR X ks F a f) (hb : EvR X ks F b g) : EvR X ks F (.IfExp c a b pos) (cIf h f g) := by
  obtain ⟨t, p, q⟩ := hc.ex
  obtain ⟨ta, pa, qa⟩ := ha.ex
  obtain ⟨tb, pb, qb⟩ := hb.ex
  refine ⟨tIf t ta tb, pe_ifExp p pa pb, fun Hb Pe P H σ ρ Q d sr ev k => ?_⟩
  obtain ⟨b, e1, ev1⟩ := Option.bind_eq_some_iff.mp ev
  refine q σ H Pe ρ _ b (fun a ha => sr.sub a (sr.fre a ha)) sr.frozen e1 fun H1 s1 => ?_
  cases b with
  | true => rw [if_pos rfl] at ev1 ⊢; exact qa Hb Pe P H1 σ ρ Q d (sr.same s1) ev1 fun v H2 s2 r2 => k v H2 (s1.trans s2) r2
  | false => rw [if_neg Bool.false_ne_true] at ev1 ⊢; exact qb Hb Pe P H1 σ ρ Q d (sr.same s1) ev1 fun v H2 s2 r2 => k v H2 (s1.trans s2) r2
def sRetT (f : SE) : SS := fun F ρ => (f F ρ).map (.rt true)
theorem evS_retR {e : Expr} {f : SE} (h : EvR X ks F e f) : EvS X ks F (.Return (some e) pos) (sRetT f) := by
  obtain ⟨t, p, q⟩ := h.ex
  refine ⟨tRet t, ps_ret p, fun Hb Pe P H σ ρ D r sr ev k => ?_⟩
  obtain ⟨d, e1, rfl⟩ := Option.map_eq_some_iff.mp ev
  exact q Hb Pe P H σ ρ _ d sr e1 fun v H' s r => k v H' (sr.keep.trans s) r.1 fun _ => r.2
end
end RE
/-! RE12: for, while, parallel assignments. -/
namespace RE
open PySem PySem.Spec PyProof.Rows L2
section
variable {X : Cx} {ks ks' : Ks} {F : Fn} {pos : Pos}
/-- some own slots are not changed for now -/
def Dem (ks ks' : Ks) : Prop := ∀ i, kd ks' i = kd ks i ∨ (kd ks i = .M ∧ kd ks' i = .L)
theorem Dem.refl : Dem ks ks := fun _ => .inl rfl
theorem Dem.ml (h : Dem ks ks') {i : Nat} : (kd ks' i = .M ∨ kd ks' i = .L) ↔ (kd ks i = .M ∨ kd ks i = .L) := by
  rcases h i with e | ⟨e1, e2⟩
  · rw [e]
  · rw [e1, e2]; simp
theorem Dem.b (h : Dem ks ks') {i : Nat} : kd ks' i = .B ↔ kd ks i = .B := by
  rcases h i with e | ⟨e1, e2⟩
  · rw [e]
  · rw [e1, e2]; simp
theorem SR.dem {mg : Str → Option Value} {Hb : Hp} {Pe P : Addr → Prop} {H : Hp} {σ : L2.St} {ρ : RE.Env} (h : SR mg Hb Pe P ks H σ ρ) (dm : Dem ks ks') : SR mg Hb Pe P ks' H σ ρ where
  freE := h.freE
  sub := h.sub
  fre := h.fre
  keep := h.keep
  er := ⟨h.er.1, fun i d e => by
    obtain ⟨v, e1, r⟩ := h.er.2 i d e
    refine ⟨v, e1, ?_⟩
    rcases dm i with q | ⟨q1, q2⟩
    · rw [q]; exact r
    · rw [q2]; rw [q1] at r; exact r⟩
  own := fun i d hk e m => by
    obtain ⟨a, h1, h2, h3, h4⟩ := h.own i d (dm.ml.mp hk) e m
    refine ⟨a, h1, h2, h3, fun q => h4 ?_⟩
    rcases dm i with z | ⟨z1, z2⟩
    · rw [← z]; exact q
    · exact z1
  dist := fun i j d e a ij hi hj => h.dist i j d e a ij (dm.ml.mp hi) (dm.ml.mp hj)
  bord := fun i d a hk => h.bord i d a (dm.b.mp hk)
  nofn := fun i g hk => h.nofn i g (dm.ml.mp hk)
theorem Top.dem (dm : Dem ks ks') {σ : L2.St} {ρ : RE.Env} {P : Addr → Prop} {a : Addr} (h : Top ks σ ρ P a) : Top ks' σ ρ P a := by
  rcases h with h | ⟨i, d, hk, r⟩
  · exact .inl h
  · refine .inr ⟨i, d, ?_, r⟩
    rcases dm i with z | ⟨z1, z2⟩
    · rw [z]; exact hk
    · rw [z1] at hk; rcases hk with y | y <;> cases y
theorem Frm.undem {P P' : Addr → Prop} {H H' : Hp} {σ σ' : L2.St} {ρ ρ' : RE.Env} (dm : Dem ks ks') (h : Frm ks' P H σ ρ P' H' σ' ρ') : Frm ks P H σ ρ P' H' σ' ρ' where
  sub := h.sub
  ext := h.ext
  slots := fun i hk => h.slots i (by
    rcases dm i with z | ⟨z1, z2⟩
    · rw [z]; exact hk
    · rw [z1] at hk; rcases hk with y | y <;> cases y)
  objs := fun b o e hx => h.objs b o e (hx.imp_left (Top.dem dm))
  there := h.there
/-- back to the kinds before -/
theorem SR.undem {mg : Str → Option Value} {Hb : Hp} {Pe P P' : Addr → Prop} {H H' : Hp} {σ σ' : L2.St} {ρ ρ' : RE.Env} (h : SR mg Hb Pe P ks H σ ρ) (dm : Dem ks ks') (f : Frm ks' P H σ ρ P' H' σ' ρ') (g : SR mg Hb Pe P' ks' H' σ' ρ') : SR mg Hb Pe P' ks H' σ' ρ' where
  freE := g.freE
  sub := g.sub
  fre := g.fre
  keep := g.keep
  er := ⟨g.er.1, fun i d e => by
    obtain ⟨v, e1, r⟩ := g.er.2 i d e
    refine ⟨v, e1, ?_⟩
    rcases dm i with q | ⟨q1, q2⟩
    · rw [← q]; exact r
    · rw [q1]; rw [q2] at r; exact r⟩
  own := fun i d hk e m => by
    obtain ⟨a, h1, h2, h3, h4⟩ := g.own i d (dm.ml.mpr hk) e m
    refine ⟨a, h1, h2, h3, fun q => ?_⟩
    rcases dm i with z | ⟨z1, z2⟩
    · exact h4 (by rw [z]; exact q)
    · obtain ⟨e1, e2⟩ := f.slots i (.inl z2)
      have er : ρ[i]? = some (some d) := by rw [← e2]; exact e
      have es : σ[i]? = some (some (.ref a)) := by rw [← e1]; exact h1
      obtain ⟨b, y1, y2, y3, y4⟩ := h.own i d (.inl z1) er m
      rw [es] at y1; cases y1
      have c := y4 z1
      cases ho : H a with
      | none => rw [ho] at c; exact c.elim
      | some o =>
        rw [f.objs a o ho (.inl (.inr ⟨i, d, .inl z2, es, er, m⟩)), ← ho]
        exact c
  dist := fun i j d e a ij hi hj => g.dist i j d e a ij (dm.ml.mpr hi) (dm.ml.mpr hj)
  bord := fun i d a hk => g.bord i d a (dm.b.mpr hk)
  nofn := fun i q hk => g.nofn i q (dm.ml.mpr hk)

/-! ### for -/
def forD (asg : SG) (body : RE.Env → Option Res) : List D → RE.Env → Option Res
  | [], ρ => some (.nx ρ)
  | d :: ds, ρ => (asg d ρ).bind fun ρ1 => (body ρ1).bind fun r => match r with | .nx ρ2 => forD asg body ds ρ2 | .rt w v => some (.rt w v)
def sFor (fi : SL) (asg : SG) (body : SS) : SS := fun F ρ => (fi F ρ).bind fun ds => forD asg (body F) ds ρ
theorem evS_for {tg iter : Expr} {b : List Stmt} {fi : SL} {is : List Nat} {asg : SG} {body : SS} (hp : PassesOwn (model X.prog X.w) X.A X.env X.xe) (hc : X.calm = true) (dm : Dem ks ks') (hi : EvI X ks' F tg iter fi) (hg : EvG X ks' tg is asg) (ht : Touches asg is) (hF : ∀ j ∈ is, kd ks' j = .F) (hb : EvSs X ks' F b body)
    (hs : ∀ x, foldedSetIterable iter X.env x = pure x) : EvS X ks F (.For tg iter b [] pos) (sFor fi asg body) := by
  obtain ⟨wi, pi, qi⟩ := hi.ex
  obtain ⟨tb, pb, qb⟩ := hb.ex
  refine ⟨tFor wi (tG X.mg ks' is asg) tb, ps_for hp hc pi hg.can pb hs, fun Hb Pe P H σ ρ D r sr ev k => ?_⟩
  obtain ⟨ds, e1, e2⟩ := Option.bind_eq_some_iff.mp ev
  have sr' := sr.dem dm
  refine qi σ H P ρ _ ds sr'.fre sr'.er e1 fun J H1 src s1 wk tp => ?_
  have sr1 := sr'.same s1
  refine for_it (n := ds.length) (G := fun H2 => ∃ P2, (∀ a, H1 a ≠ none → P a → P2 a) ∧ Kept P2 src H1 H2) (Y := fun i H2 x H3 => ∀ P2, (∀ a, H1 a ≠ none → P a → P2 a) → Kept P2 src H1 H2 → Same H2 H3 ∧ ∃ d, ds[i]? = some d ∧ Rep P2 H3 d x)
    ⟨fun i H2 hi ⟨P2, h1, h2⟩ => (wk P2 h1).goes H2 i h2 hi, fun H2 ⟨P2, h1, h2⟩ => (wk P2 h1).stops H2 h2, fun i H2 x H3 hi _ y P2 h1 h2 => (wk P2 h1).yields H2 i x H3 h2 hi y⟩
    (fun i σ2 H2 => ∃ P2 ρ2, SR X.mg Hb Pe P2 ks' H2 σ2 ρ2 ∧ Frm ks' P H1 σ ρ P2 H2 σ2 ρ2 ∧ forD asg (body F) (ds.drop i) ρ2 = some r) ?_ ?_ ?_ ?_
  · exact ⟨P, ρ, sr1, Frm.refl, e2⟩
  · rintro i σ2 H2 hi ⟨P2, ρ2, sr2, fm, ev2⟩
    refine ⟨P2, fm.ext, fun b o eb hx => fm.objs b o eb ?_⟩
    rcases hx with z | z | z
    · exact .inl (.inl (fm.sub b z))
    · exact .inr z
    · exact .inl (tp b z)
  · rintro i x σ2 H2 H3 hi ⟨P2, ρ2, sr2, fm, ev2⟩ y
    obtain ⟨s3, d, ed, rd⟩ := y P2 fm.ext fun b o eb hx => fm.objs b o eb (by
      rcases hx with z | z | z
      · exact .inl (.inl (fm.sub b z))
      · exact .inr z
      · exact .inl (tp b z))
    have ed2 : ds.drop i = d :: ds.drop (i + 1) := by
      have hlt := (List.getElem?_eq_some_iff.mp ed).1
      rw [List.drop_eq_getElem_cons hlt]
      congr 1
      exact (List.getElem?_eq_some_iff.mp ed).2
    rw [ed2] at ev2
    obtain ⟨ρ3, e3, e4⟩ := Option.bind_eq_some_iff.mp ev2
    obtain ⟨r3, e5, e6⟩ := Option.bind_eq_some_iff.mp e4
    have sr3 := sr2.same s3
    refine ⟨P2, ρ2, ρ3, d, rd, sr3.er, e3, fun σ3 er3 hl hj => ?_⟩
    have sr4 := sr3.assign hF er3 hj (ht d ρ2 ρ3 e3).2
    have fm4 : Frm ks' P H1 σ ρ P2 H3 σ3 ρ3 := (fm.trans (Frm.of_same s3)).trans (Frm.assign hF hj (ht d ρ2 ρ3 e3).2)
    refine qb Hb Pe P2 H3 σ3 ρ3 _ r3 sr4 e5 ?_
    cases r3 with
    | nx ρ5 => exact fun P5 σ5 H5 sr5 fm5 => ⟨P5, ρ5, sr5, fm4.trans fm5, e6⟩
    | rt w v =>
      cases e6
      exact k
  · rintro σ2 H2 ⟨P2, ρ2, sr2, fm, ev2⟩
    rw [List.drop_length] at ev2
    cases ev2
    have fm' := (Frm.of_same (ks := ks') (P := P) (σ := σ) (ρ := ρ) s1).trans fm
    exact k P2 σ2 H2 (sr.undem dm fm' sr2) (Frm.undem dm fm')

/-! ### while -/
def whileD (c : RE.Env → Option Bool) (body : RE.Env → Option Res) : Nat → RE.Env → Option Res
  | 0, _ => none
  | n + 1, ρ => (c ρ).bind fun b => if b then (body ρ).bind fun r => match r with | .nx ρ2 => whileD c body n ρ2 | .rt w v => some (.rt w v) else some (.nx ρ)
open Classical in
/-- as many turns as it takes -/
noncomputable def sWhile (c : SB) (body : SS) : SS := fun F ρ => if h : ∃ n r, whileD (c F) (body F) n ρ = some r then some (Classical.choose (Classical.choose_spec h)) else none
theorem whileD_mono (c : RE.Env → Option Bool) (body : RE.Env → Option Res) : ∀ n ρ r, whileD c body n ρ = some r → whileD c body (n + 1) ρ = some r
  | 0, _, _, h => by cases h
  | n + 1, ρ, r, h => by
    rw [whileD] at h ⊢
    obtain ⟨b, e1, e2⟩ := Option.bind_eq_some_iff.mp h
    refine Option.bind_eq_some_iff.mpr ⟨b, e1, ?_⟩
    cases b with
    | false => exact e2
    | true =>
      rw [if_pos rfl] at e2 ⊢
      obtain ⟨q, e3, e4⟩ := Option.bind_eq_some_iff.mp e2
      refine Option.bind_eq_some_iff.mpr ⟨q, e3, ?_⟩
      cases q with
      | nx ρ2 => exact whileD_mono c body n ρ2 r e4
      | rt w v => exact e4
theorem whileD_le (c : RE.Env → Option Bool) (body : RE.Env → Option Res) {n m : Nat} (h : n ≤ m) {ρ : RE.Env} {r : Res} (e : whileD c body n ρ = some r) : whileD c body m ρ = some r := by
  induction h with
  | refl => exact e
  | step _ ih => exact whileD_mono c body _ ρ r ih
theorem sWhile_of {c : SB} {body : SS} {F : Fn} {n : Nat} {ρ : RE.Env} {r : Res} (e : whileD (c F) (body F) n ρ = some r) : sWhile c body F ρ = some r := by
  have h : ∃ n r, whileD (c F) (body F) n ρ = some r := ⟨n, r, e⟩
  unfold sWhile
  rw [dif_pos h]
  have e2 := Classical.choose_spec (Classical.choose_spec h)
  have a1 := whileD_le (c F) (body F) (Nat.le_max_left n (Classical.choose h)) e
  have a2 := whileD_le (c F) (body F) (Nat.le_max_right n (Classical.choose h)) e2
  rw [a1] at a2
  exact a2.symm
theorem sWhile_some {c : SB} {body : SS} {F : Fn} {ρ : RE.Env} {r : Res} (e : sWhile c body F ρ = some r) : ∃ n, whileD (c F) (body F) n ρ = some r := by
  unfold sWhile at e
  split at e
  · rename_i h
    cases e
    exact ⟨_, Classical.choose_spec (Classical.choose_spec h)⟩
  · cases e
theorem evS_while {c : Expr} {b : List Stmt} {fc : SB} {body : SS} (hp : PassesOwn (model X.prog X.w) X.A X.env X.xe) (hc : EvT X ks F c fc) (hb : EvSs X ks F b body) : EvS X ks F (.While c b [] pos) (sWhile fc body) := by
  obtain ⟨tc, pc, qc⟩ := hc.ex
  obtain ⟨tb, pb, qb⟩ := hb.ex
  refine ⟨tWhile tc tb, ps_while hp pc pb, fun Hb Pe P H σ ρ D r sr ev k => ?_⟩
  obtain ⟨n, e⟩ := sWhile_some ev
  refine ⟨fun n σ2 H2 => ∃ P2 ρ2, SR X.mg Hb Pe P2 ks H2 σ2 ρ2 ∧ Frm ks P H σ ρ P2 H2 σ2 ρ2 ∧ whileD (fc F) (body F) n ρ2 = some r, ⟨n, P, ρ, sr, Frm.refl, e⟩, ?_⟩
  rintro m σ2 H2 ⟨P2, ρ2, sr2, fm, e2⟩
  cases m with
  | zero => cases e2
  | succ m =>
    rw [whileD] at e2
    obtain ⟨bb, e3, e4⟩ := Option.bind_eq_some_iff.mp e2
    refine qc σ2 H2 P2 ρ2 _ bb sr2.fre sr2.er e3 fun H3 s3 => ?_
    have sr3 := sr2.same s3
    have fm3 := fm.trans (Frm.of_same s3)
    cases bb with
    | false =>
      rw [if_neg Bool.false_ne_true] at e4
      refine iteF ?_
      cases e4
      exact k P2 σ2 H3 sr3 fm3
    | true =>
      rw [if_pos rfl] at e4
      refine iteT ?_
      obtain ⟨q, e5, e6⟩ := Option.bind_eq_some_iff.mp e4
      refine ⟨fun σ' H' => ∃ P2 ρ2, SR X.mg Hb Pe P2 ks H' σ' ρ2 ∧ Frm ks P H σ ρ P2 H' σ' ρ2 ∧ whileD (fc F) (body F) m ρ2 = some r, fun σ' H' h => ⟨m, Nat.lt_succ_self m, h⟩, ?_⟩
      refine qb Hb Pe P2 H3 σ2 ρ2 _ q sr3 e5 ?_
      cases q with
      | nx ρ5 => exact fun P5 σ5 H5 sr5 fm5 => ⟨P5, ρ5, sr5, fm3.trans fm5, e6⟩
      | rt w v => cases e6; exact k

/-! ### x += e, of whole numbers -/
def sAug (i : Nat) (f : SE) : SS := fun F ρ => (cV i F ρ).bind fun d => (f F ρ).bind fun e => match d, e with
  | .int m, .int n => some (.nx (ρ.set i (some (.int (m + n)))))
  | _, _ => none
theorem evS_aug {i : Nat} {x : Str} {e : Expr} {f : SE} {p : Pos} (hN : X.N.Nodup) (hi : X.N[i]? = some x) (hx : Loc X.env.scope x) (hk : kd ks i = .F) (he : EvP X ks F e f) (hf : X.fn x = true ∨ X.env.scope.names.lookup x = some .local) : EvS X ks F (.AugAssign (.Name x p) .Add e pos) (sAug i f) := by
  obtain ⟨t, pt, q⟩ := he.ex
  refine ⟨tAug i t (ipI fun i j => i + j), ps_aug hN hi hx pt ip_add hf, fun Hb Pe P H σ ρ D r sr ev k => ?_⟩
  obtain ⟨d, e1, ev1⟩ := Option.bind_eq_some_iff.mp ev
  obtain ⟨y, e2, ev2⟩ := Option.bind_eq_some_iff.mp ev1
  split at ev2
  · rename_i m n
    cases ev2
    obtain ⟨v, e3, r3⟩ := sr.er.2 i _ (cV_some e1)
    rw [hk] at r3
    simp only [RepK, Rep] at r3
    subst r3
    refine ⟨_, e3, q σ H P ρ _ _ sr.fre sr.er e2 fun w H1 s1 r1 => ?_⟩
    simp only [RepB] at r1
    subst r1
    refine ⟨m, n, rfl, rfl, ?_⟩
    exact k P _ H1 ((sr.same s1).set (i := i) (by unfold Fits; rw [hk]; simp only [Rep])) ((Frm.of_same s1).trans (Frm.set (.inl hk)))
  · cases ev2
end
end RE
/-! RE12b: list comprehensions with two fors. -/
namespace RE
open PySem PySem.Spec PyProof.Rows L2

/-- the canonical reading of a walk -/
def tI (mg : Str → Option Value) (ks : Ks) (F : Fn) (fi : SL) : TI := fun σ H R => ∃ (P : Addr → Prop) (ρ : RE.Env) (ds : List D), Fre P H ∧ ER mg P ks H σ ρ ∧ fi F ρ = some ds ∧
  ∀ J H1 src, Same H H1 → (∀ P', (∀ a, H1 a ≠ none → P a → P' a) → WalkD P' src J ds H1) → (∀ a ∈ src, Top ks σ ρ P a) → R J H1
theorem EvI.can {X : Cx} {ks : Ks} {F : Fn} {tg e : Expr} {f : SL} (h : EvI X ks F tg e f) : PI X tg e (tI X.mg ks F f) := by
  obtain ⟨t, p, q⟩ := h.ex
  exact ⟨fun pins s σ H R I ⟨P, ρ, ds, fr, er, ev, k⟩ => p.run pins s σ H R I (q σ H P ρ R ds fr er ev k)⟩
/-- a walk by an invariant, whatever a turn does -/
theorem it_gen {J : It} {n : Nat} {Pv : Nat → Hp → Prop} {Qd : Hp → Prop} {S : V → Hp → (Hp → Prop) → Prop} {H0 : Hp} (h0 : Pv 0 H0) (goes : ∀ i H, i < n → Pv i H → J.go i H) (stops : ∀ H, Pv n H → J.stop n H ∧ Qd H)
    (hs : ∀ i x H H', i < n → Pv i H → J.yld i H x H' → S x H' (Pv (i + 1))) :
    ∃ W : Nat → Nat → Hp → Prop, (∃ m, W 0 m H0) ∧ ∀ i m H, W i m H → (J.stop i H ∧ Qd H) ∨ (J.go i H ∧ ∃ Nx : Hp → Prop, (∀ H', Nx H' → ∃ m', m' < m ∧ W (i + 1) m' H') ∧ ∀ x H', J.yld i H x H' → S x H' Nx) := by
  refine ⟨fun i m H => m + i = n ∧ Pv i H, ⟨n, rfl, h0⟩, ?_⟩
  rintro i m H ⟨hm, p⟩
  by_cases hi : i < n
  · exact .inr ⟨goes i H hi p, Pv (i + 1), fun H' p' => ⟨m - 1, by omega, by omega, p'⟩, fun x H' y => hs i x H H' hi p y⟩
  · obtain rfl : i = n := by omega
    exact .inl (stops H p)
/-- one item of the outer walk -/
def lcTwo (vs1 : List Nat) (asg : SG) (t : SB) (fi1 : SL) (asg1 : SG) (t1 : SB) (e : SE) (F : Fn) (ρ : RE.Env) (d : D) : Option (List D) :=
  (asg d ρ).bind fun ρ' => (t F ρ').bind fun b => if b then (fi1 F ρ').bind fun ds1 => lcAll (lcOne asg1 t1 e F (wipeE ρ' vs1)) ds1 else some []
def cLc2 (own vs1 : List Nat) (fi : SL) (asg : SG) (t : SB) (fi1 : SL) (asg1 : SG) (t1 : SB) (e : SE) : SE := fun F ρ => (fi F ρ).bind fun ds => (lcAll (lcTwo vs1 asg t fi1 asg1 t1 e F (wipeE ρ own)) ds).bind mkLst
theorem evNS_lc2 {X : Cx} {ks ks' : Ks} {F : Fn} {elt tg iter tg1 iter1 : Expr} {ifs ifs1 : List Expr} {scope : Scope} {own : List (Str × Nat)} {vs1 : List Nat} {pos : Pos} {fi fi1 : SL} {is is1 : List Nat} {asg asg1 : SG} {ft ft1 : SB} {fe : SE} (hc : X.calm = true) (hN : X.N.Nodup)
    (hi : EvI X ks F tg iter fi) (ok : BlkOk X.N X.env.scope scope own) (his : ∀ j ∈ is, j ∈ own.map (·.2)) (hv : ∀ j ∈ vs1, j ∈ own.map (·.2)) (his1 : ∀ j ∈ is1, j ∈ vs1) (hk : ∀ i, i ∉ own.map (·.2) → kd ks' i = kd ks i) (hto : Touches asg is) (hF : ∀ j ∈ is, kd ks' j = .F)
    (hg : ∀ (s : Shared) (H : Hp) (C : Addr) (cl : List (Str × Addr)) (fp : List Addr), EvG (X.blk s H scope (compEnvC scope cl C X.env) fp) ks' tg is asg)
    (ht : ∀ (s : Shared) (H : Hp) (C : Addr) (cl : List (Str × Addr)) (fp : List Addr), EvTs (X.blk s H scope (compEnvC scope cl C X.env) fp) ks' F ifs ft)
    (hi1 : ∀ (s : Shared) (H : Hp) (C : Addr) (cl : List (Str × Addr)) (fp : List Addr), EvI (X.blk s H scope (compEnvC scope cl C X.env) fp) ks' F tg1 iter1 fi1)
    (hg1 : ∀ (s : Shared) (H : Hp) (C : Addr) (cl : List (Str × Addr)) (fp : List Addr), EvG (X.blk s H scope (compEnvC scope cl C X.env) fp) ks' tg1 is1 asg1)
    (ht1 : ∀ (s : Shared) (H : Hp) (C : Addr) (cl : List (Str × Addr)) (fp : List Addr), EvTs (X.blk s H scope (compEnvC scope cl C X.env) fp) ks' F ifs1 ft1)
    (he : ∀ (s : Shared) (H : Hp) (C : Addr) (cl : List (Str × Addr)) (fp : List Addr), EvE (X.blk s H scope (compEnvC scope cl C X.env) fp) ks' F elt fe)
    (hs : ∀ x, foldedSetIterable iter X.env x = pure x) (hs1 : ∀ env x, foldedSetIterable iter1 env x = pure x) : EvNS X ks F (.ListComp elt [⟨tg, iter, ifs, 0⟩, ⟨tg1, iter1, ifs1, 0⟩] scope pos) (cLc2 (own.map (·.2)) vs1 fi asg ft fi1 asg1 ft1 fe) := by
  obtain ⟨wi, pi, q⟩ := hi.ex
  refine ⟨_, ⟨pe_lc2 (g := tG X.mg ks' is asg) (tt := tT X.mg ks' F ft) (wi1 := tI X.mg ks' F fi1) (g1 := tG X.mg ks' is1 asg1) (tt1 := tT X.mg ks' F ft1) (te := tE X.mg ks' F fe) hc hN pi ok hv (fun s H C cl fp => (hg s H C cl fp).can) (fun s H C cl fp => (ht s H C cl fp).can) (fun s H C cl fp => (hi1 s H C cl fp).can) (fun s H C cl fp => (hg1 s H C cl fp).can) (fun s H C cl fp => (ht1 s H C cl fp).can) (fun s H C cl fp => (he s H C cl fp).can) hs hs1,
    fun i y py spos hy hyl hsw => ps_setLc2 (g := tG X.mg ks' is asg) (tt := tT X.mg ks' F ft) (wi1 := tI X.mg ks' F fi1) (g1 := tG X.mg ks' is1 asg1) (tt1 := tT X.mg ks' F ft1) (te := tE X.mg ks' F fe) hc hN hy hyl hsw pi ok hv (fun s H C cl fp => (hg s H C cl fp).can) (fun s H C cl fp => (ht s H C cl fp).can) (fun s H C cl fp => (hi1 s H C cl fp).can) (fun s H C cl fp => (hg1 s H C cl fp).can) (fun s H C cl fp => (ht1 s H C cl fp).can) (fun s H C cl fp => (he s H C cl fp).can) hs hs1⟩, fun σ H P ρ Q d fr er ev k => ?_⟩
  obtain ⟨ds, e1, ev1⟩ := Option.bind_eq_some_iff.mp ev
  obtain ⟨outs, e2, ev2⟩ := Option.bind_eq_some_iff.mp ev1
  obtain ⟨rfl, hlen⟩ := mkLst_some ev2
  refine q σ H P ρ _ ds fr er e1 fun J H1 src s1 wk top Dl hD => ?_
  have fr1 := fr.same s1
  have er1 := er.same s1
  have wk := wk (fun b => P b ∧ b ≠ Dl) fun a ha pa => ⟨pa, fun e => ha (e ▸ hD)⟩
  have kept : ∀ H2, (∀ b o, H1 b = some o → H2 b = some o) → Kept (fun b => P b ∧ b ≠ Dl) src H1 H2 := fun H2 h b o e _ => h b o e
  let Pv : Nat → Hp → Prop := fun i H2 => ∃ vs pre, lcAll (lcTwo vs1 asg ft fi1 asg1 ft1 fe F (wipeE ρ (own.map (·.2)))) (ds.take i) = some pre ∧ H2 Dl = some (.lst vs) ∧ RepL (fun b => P b ∧ b ≠ Dl) H2 pre vs ∧ ∀ b o, H1 b = some o → H2 b = some o
  refine it_gen (n := ds.length) (Pv := Pv) ?_ ?_ ?_ ?_
  · refine ⟨[], [], by simp [lcAll], upd_same, by simp [RepL], fun b o e => ?_⟩
    rw [upd_ne (ne_of_none e hD)]; exact e
  · rintro i H2 hi ⟨vs, pre, _, _, _, h⟩
    exact wk.goes H2 i (kept H2 h) hi
  · rintro H2 ⟨vs, pre, hpre, hDl, hr, hkp⟩
    refine ⟨wk.stops H2 (kept H2 hkp), ?_⟩
    rw [List.take_length, e2] at hpre
    cases hpre
    refine k _ H2 (s1.trans hkp) ⟨?_, ?_⟩
    · simp only [Rep]
      exact ⟨Dl, vs, rfl, fr1 Dl hD, hDl, hr.weak fun a z => z.1⟩
    · exact topNew_ref (s1.free hD)
  · rintro i x H2 H3 hi ⟨vs, pre, hpre, hDl, hr, hkp⟩ yl
    obtain ⟨s3, d, hd, rd⟩ := wk.yields H2 i x H3 (kept H2 hkp) hi yl
    have e3 : ds.take (i + 1) = ds.take i ++ [d] := by rw [List.take_add_one, hd]; rfl
    obtain ⟨pre', post, e4, e5⟩ := lcAll_take e2 (i + 1)
    have e4' := e4
    rw [e3, lcAll_snoc, hpre] at e4
    simp only [Option.bind_some] at e4
    obtain ⟨ys, e6, rfl⟩ := Option.map_eq_some_iff.mp e4
    obtain ⟨ρ', e7, e8⟩ := Option.bind_eq_some_iff.mp e6
    obtain ⟨b, e9, e10⟩ := Option.bind_eq_some_iff.mp e8
    have hD3 : H3 Dl = some (.lst vs) := s3 _ _ hDl
    have all3 : ∀ b o, H1 b = some o → H3 b = some o := fun b o e => s3 b o (hkp b o e)
    have fr3 : Fre (fun b => P b ∧ b ≠ Dl) H3 := fre_minus (fr1.same all3) (by rw [hD3]; simp)
    have er3 : ER X.mg (fun b => P b ∧ b ≠ Dl) ks' H3 (L2.wipe σ (own.map (·.2))) (wipeE ρ (own.map (·.2))) := ER.wipe (er1.mono all3 fun a ha pa => ⟨pa, fun e => ha (e ▸ hD)⟩) hk
    refine ⟨_, _, _, d, rd, er3, e7, fun σ' er' hl hj => ⟨wipe_eq hl hj his, ?_⟩⟩
    refine ⟨_, ρ', b, fr3, er', e9, fun H4 s4 => ?_⟩
    have all4 : ∀ b o, H1 b = some o → H4 b = some o := fun b o e => s4 b o (all3 b o e)
    have hD4 : H4 Dl = some (.lst vs) := s4 _ _ hD3
    have hr4 := (hr.same s3).same s4
    cases b with
    | false =>
      rw [if_neg Bool.false_ne_true] at e10
      refine iteF ?_
      cases e10
      exact ⟨vs, pre ++ [], e4', hD4, by rw [List.append_nil]; exact hr4, all4⟩
    | true =>
      rw [if_pos rfl] at e10
      refine iteT ?_
      obtain ⟨ds1, e11, e12⟩ := Option.bind_eq_some_iff.mp e10
      refine ⟨_, ρ', ds1, fr3.same s4, er'.same s4, e11, fun J1 H5 src1 s5 wk1 top1 => ?_⟩
      have hD5 : H5 Dl = some (.lst vs) := s5 _ _ hD4
      have hr5 := hr4.same s5
      have all5 : ∀ b o, H1 b = some o → H5 b = some o := fun b o e => s5 b o (all4 b o e)
      have wk1 := wk1 (fun b => P b ∧ b ≠ Dl) fun a _ pa => pa
      have nD : ∀ a ∈ src1, a ≠ Dl := by
        intro a ha
        rcases top1 a ha with h | ⟨j, dd, hkj, hσ, hρ, hmu⟩
        · exact h.2
        · have nj : j ∉ is := fun hj' => by
            rw [hF j hj'] at hkj
            rcases hkj with h | h <;> cases h
          rw [hj j nj] at hσ
          rw [(hto _ _ _ e7).2 j nj] at hρ
          obtain ⟨hρ1, nown⟩ := wipeE_some hρ
          rw [wipe_out nown] at hσ
          obtain ⟨v, hv1, rk⟩ := er1.2 j dd hρ1
          rw [hσ] at hv1
          cases hv1
          have hB := rk.toB
          have : H1 a ≠ none := by
            cases dd with
            | lst xs => obtain ⟨b, vs', e, h1⟩ := hB.lst; cases e; rw [h1.1]; simp
            | dic t kvs =>
              simp only [RepB] at hB
              obtain ⟨b, ps, e, h1, _⟩ := hB
              cases e
              exact h1.some
            | _ => cases hmu
          exact fun e => this (e ▸ hD)
      have kept1 : ∀ H6 : Hp, (∀ b o, b ≠ Dl → H5 b = some o → H6 b = some o) → Kept (fun b => P b ∧ b ≠ Dl) src1 H5 H6 := fun H6 h b o e hb => by
        refine h b o ?_ e
        rcases hb with hb | hb | hb
        · exact hb.2
        · rintro rfl
          rw [hD5] at e
          cases e
          exact hb trivial
        · exact nD b hb
      let Pw : Nat → Hp → Prop := fun j H6 => ∃ vs' pre1, lcAll (lcOne asg1 ft1 fe F (wipeE ρ' vs1)) (ds1.take j) = some pre1 ∧ H6 Dl = some (.lst vs') ∧ RepL (fun b => P b ∧ b ≠ Dl) H6 (pre ++ pre1) vs' ∧ ∀ b o, b ≠ Dl → H5 b = some o → H6 b = some o
      have pD : ∀ H6 : Hp, (∀ b o, b ≠ Dl → H5 b = some o → H6 b = some o) → ∀ b o, H1 b = some o → H6 b = some o := fun H6 h b o e => h b o (ne_of_none e hD) (all5 b o e)
      refine it_gen (n := ds1.length) (Pv := Pw) ?_ ?_ ?_ ?_
      · exact ⟨vs, [], by simp [lcAll], hD5, by rw [List.append_nil]; exact hr5, fun b o _ e => e⟩
      · rintro j H6 hjl ⟨vs', pre1, _, _, _, h⟩
        exact wk1.goes H6 j (kept1 H6 h) hjl
      · rintro H6 ⟨vs', pre1, hp1, hD6, hr6, h⟩
        refine ⟨wk1.stops H6 (kept1 H6 h), ?_⟩
        rw [List.take_length, e12] at hp1
        cases hp1
        exact ⟨vs', _, e4', hD6, hr6, pD H6 h⟩
      · rintro j y H6 H7 hjl ⟨vs', pre1, hp1, hD6, hr6, h6⟩ yl1
        obtain ⟨s7, d1, hd1, rd1⟩ := wk1.yields H6 j y H7 (kept1 H6 h6) hjl yl1
        have f3 : ds1.take (j + 1) = ds1.take j ++ [d1] := by rw [List.take_add_one, hd1]; rfl
        obtain ⟨pre1', post1, f4, f5⟩ := lcAll_take e12 (j + 1)
        have f4' := f4
        rw [f3, lcAll_snoc, hp1] at f4
        simp only [Option.bind_some] at f4
        obtain ⟨zs, f6, rfl⟩ := Option.map_eq_some_iff.mp f4
        obtain ⟨ρ1, f7, f8⟩ := Option.bind_eq_some_iff.mp f6
        obtain ⟨b1, f9, f10⟩ := Option.bind_eq_some_iff.mp f8
        have hD7 : H7 Dl = some (.lst vs') := s7 _ _ hD6
        have h7 : ∀ b o, b ≠ Dl → H5 b = some o → H7 b = some o := fun b o n e => s7 b o (h6 b o n e)
        have all7 := pD H7 h7
        have fr7 : Fre (fun b => P b ∧ b ≠ Dl) H7 := fre_minus (fr1.same all7) (by rw [hD7]; simp)
        have er5 : ER X.mg (fun b => P b ∧ b ≠ Dl) ks' H7 σ' ρ' := by
          refine ⟨er'.1, fun i2 d2 g2 => ?_⟩
          obtain ⟨v2, g3, g4⟩ := er'.2 i2 d2 g2
          refine ⟨v2, g3, ?_⟩
          by_cases hin : i2 ∈ is
          · rw [hF i2 hin] at g4 ⊢
            have g4 : Rep (fun b => P b ∧ b ≠ Dl) H3 d2 v2 := g4
            have g4 := (g4.same s4).same s5
            exact Rep.same s7 (Rep.kept (kept1 H6 h6) _ _ g4)
          · have hρ2 := (hto _ _ _ e7).2 i2 hin
            rw [g2] at hρ2
            have hσ2 := hj i2 hin
            rw [g3] at hσ2
            obtain ⟨r1, nown⟩ := wipeE_some hρ2.symm
            rw [wipe_out nown] at hσ2
            obtain ⟨v3, m1, m2⟩ := er1.2 i2 d2 r1
            rw [← hσ2] at m1
            cases m1
            rw [hk i2 nown]
            exact RepK.mono all7 (fun a ha pa => ⟨pa, fun e => ha (e ▸ hD)⟩) m2
        have er7 : ER X.mg (fun b => P b ∧ b ≠ Dl) ks' H7 (L2.wipe σ' vs1) (wipeE ρ' vs1) := ER.wipe er5 fun _ _ => rfl
        refine ⟨_, _, _, d1, rd1, er7, f7, fun σ2 er2 hl2 hj2 => ⟨wipe_eq hl2 hj2 his1, ?_⟩⟩
        refine ⟨_, ρ1, b1, fr7, er2, f9, fun H8 s8 => ?_⟩
        have h8 : ∀ b o, b ≠ Dl → H5 b = some o → H8 b = some o := fun b o n e => s8 b o (h7 b o n e)
        have hr8 := (hr6.same s7).same s8
        cases b1 with
        | false =>
          rw [if_neg Bool.false_ne_true] at f10
          refine iteF ?_
          cases f10
          exact ⟨vs', pre1 ++ [], f4', s8 _ _ hD7, by rw [List.append_nil]; exact hr8, h8⟩
        | true =>
          rw [if_pos rfl] at f10
          refine iteT ?_
          obtain ⟨y2, f11, rfl⟩ := Option.map_eq_some_iff.mp f10
          refine ⟨_, ρ1, y2, fr7.same s8, er2.same s8, f11, fun v H9 s9 r9 => ?_⟩
          have hD9 : H9 Dl = some (.lst vs') := s9 _ _ (s8 _ _ hD7)
          have rl := hr8.same s9
          refine ⟨vs', hD9, ?_, vs' ++ [v], pre1 ++ [y2], f4', upd_same, ?_, fun b o n e => ?_⟩
          · rw [rl.len]
            have e13 : outs.length = (pre ++ ys).length + post.length := by rw [e5, List.length_append]
            have e14 : ys.length = (pre1 ++ [y2]).length + post1.length := by rw [f5, List.length_append]
            rw [List.length_append] at e13
            rw [List.length_append, List.length_singleton] at e14
            rw [List.length_append]
            omega
          · rw [← List.append_assoc]
            have r6 : RepL (fun b => P b ∧ b ≠ Dl) H9 ((pre ++ pre1) ++ [y2]) (vs' ++ [v]) := rl.app (by simp only [RepL]; exact ⟨v, [], rfl, r9, rfl⟩)
            exact RepL.chg (by rw [hD9]; trivial) (fun z => z.2 rfl) _ _ r6
          · rw [upd_ne n]
            exact s9 b o (h8 b o n e)
end RE
/-! RE12c: x = [list(..) for ..] and, right behind it, x[i][j] = e. -/
namespace RE
open PySem PySem.Spec PyProof.Rows L2

def tEn (mg : Str → Option Value) (ks : Ks) (F : Fn) (f : SE) : TE := fun σ H Q => ∃ (P : Addr → Prop) (ρ : RE.Env) (d : D), Fre P H ∧ ER mg P ks H σ ρ ∧ f F ρ = some d ∧ ∀ v H', Same H H' → Rep P H' d v → TopNew H d v → Q v H'
theorem EvN.canN {X : Cx} {ks : Ks} {F : Fn} {e : Expr} {f : SE} (h : EvN X ks F e f) : PE X e (tEn X.mg ks F f) := by
  obtain ⟨t, p, q⟩ := h.ex
  exact ⟨fun pins s σ H Q I ⟨P, ρ, d, fr, er, ev, k⟩ => p.run pins s σ H Q I (q σ H P ρ Q d fr er ev fun v H' s r => k v H' s r.1 r.2)⟩
def isLst : D → Bool
  | .lst _ => true
  | _ => false
def cNL (own : List Nat) (fi : SL) (asg : SG) (fe : SE) : SE := fun F ρ => (cLc own fi asg cTrue fe F ρ).bind fun d => match d with
  | .lst ds => if ds.all isLst then some (.lst ds) else none
  | _ => none
/-- a new list of new lists, each of its own; assigned to a name on one line -/
structure EvNL (X : Cx) (ks : Ks) (F : Fn) (e : Expr) (f : SE) : Prop where
  ex : ∃ t : TE, (∀ (i : Nat) (y : Str) (py spos : Pos), X.N[i]? = some y → X.env.scope.names.lookup y = some .local → swapsWith e (some (.Name y py)) spos.line X.env = pure true → PS X (.Assign [.Name y py] e spos) (tAsg t (gName i))) ∧
    ∀ σ H, Cn X.mg H ks F f σ (fun P d v H' => ∃ (ds : List D) (Dl : Addr) (bs : List Addr), d = .lst ds ∧ v = .ref Dl ∧ H Dl = none ∧ H' Dl = some (.lst (bs.map V.ref)) ∧ RepL (fun b => P b ∧ b ≠ Dl) H' ds (bs.map V.ref) ∧ bs.Nodup ∧ ∀ b ∈ bs, H b = none ∧ b ≠ Dl) t
theorem evNL_lc {X : Cx} {ks ks' : Ks} {F : Fn} {elt tg iter : Expr} {scope : Scope} {own : List (Str × Nat)} {pos : Pos} {fi : SL} {is : List Nat} {asg : SG} {fe : SE} (hc : X.calm = true) (hN : X.N.Nodup)
    (hi : EvI X ks F tg iter fi) (ok : BlkOk X.N X.env.scope scope own) (his : ∀ j ∈ is, j ∈ own.map (·.2)) (hk : ∀ i, i ∉ own.map (·.2) → kd ks' i = kd ks i)
    (hg : ∀ (s : Shared) (H : Hp) (C : Addr) (cl : List (Str × Addr)) (fp : List Addr), EvG (X.blk s H scope (compEnvC scope cl C X.env) fp) ks' tg is asg)
    (he : ∀ (s : Shared) (H : Hp) (C : Addr) (cl : List (Str × Addr)) (fp : List Addr), EvN (X.blk s H scope (compEnvC scope cl C X.env) fp) ks' F elt fe)
    (hs : ∀ x, foldedSetIterable iter X.env x = pure x) : EvNL X ks F (.ListComp elt [⟨tg, iter, [], 0⟩] scope pos) (cNL (own.map (·.2)) fi asg fe) := by
  obtain ⟨wi, pi, q⟩ := hi.ex
  have ht : ∀ (s : Shared) (H : Hp) (C : Addr) (cl : List (Str × Addr)) (fp : List Addr), PTs (X.blk s H scope (compEnvC scope cl C X.env) fp) [] (tT X.mg ks' F cTrue) := fun s H C cl fp => (evTs_nil (X := X.blk s H scope (compEnvC scope cl C X.env) fp) (ks := ks') (F := F)).can
  refine ⟨_, fun i y py spos hy hyl hsw => ps_setLc (g := tG X.mg ks' is asg) (tt := tT X.mg ks' F cTrue) (te := tEn X.mg ks' F fe) hc hN hy hyl hsw pi ok (fun s H C cl fp => (hg s H C cl fp).can) ht (fun s H C cl fp => (he s H C cl fp).canN) hs, fun σ H P ρ Q d fr er ev k => ?_⟩
  obtain ⟨d0, e0, ev0⟩ := Option.bind_eq_some_iff.mp ev
  obtain ⟨ds, e1, ev1⟩ := Option.bind_eq_some_iff.mp e0
  obtain ⟨outs, e2, ev2⟩ := Option.bind_eq_some_iff.mp ev1
  obtain ⟨rfl, hlen⟩ := mkLst_some ev2
  simp only at ev0
  split at ev0
  · rename_i hall
    cases ev0
    rw [List.all_eq_true] at hall
    refine q σ H P ρ _ ds fr er e1 fun J H1 src s1 wk top Dl hD => ?_
    have fr1 := fr.same s1
    have er1 := er.same s1
    have wk := wk (fun b => P b ∧ b ≠ Dl) fun a ha pa => ⟨pa, fun e => ha (e ▸ hD)⟩
    have kept : ∀ H2, (∀ b o, H1 b = some o → H2 b = some o) → Kept (fun b => P b ∧ b ≠ Dl) src H1 H2 := fun H2 h b o e _ => h b o e
    refine lc_it (n := ds.length) (G := fun H2 => Kept (fun b => P b ∧ b ≠ Dl) src H1 H2) (Y := fun i H2 x H3 => Same H2 H3 ∧ ∃ d, ds[i]? = some d ∧ Rep (fun b => P b ∧ b ≠ Dl) H3 d x) ⟨fun i H2 hi g => wk.goes H2 i g hi, fun H2 g => wk.stops H2 g, fun i H2 x H3 hi g y => wk.yields H2 i x H3 g hi y⟩
      (fun i H2 => ∃ (bs : List Addr) (pre : List D), lcAll (lcOne asg cTrue fe F (wipeE ρ (own.map (·.2)))) (ds.take i) = some pre ∧ H2 Dl = some (.lst (bs.map V.ref)) ∧ RepL (fun b => P b ∧ b ≠ Dl) H2 pre (bs.map V.ref) ∧ (bs.Nodup ∧ ∀ b ∈ bs, H1 b = none ∧ b ≠ Dl ∧ H2 b ≠ none) ∧ ∀ b o, H1 b = some o → H2 b = some o) ?_ ?_ ?_ ?_
    · refine ⟨[], [], by simp [lcAll], upd_same, by simp [RepL], ⟨List.nodup_nil, fun _ h => nomatch h⟩, fun b o e => ?_⟩
      rw [upd_ne (ne_of_none e hD)]; exact e
    · rintro i H2 _ ⟨bs, pre, _, _, _, _, h⟩
      exact kept H2 h
    · rintro i x H2 H3 hi ⟨bs, pre, hpre, hDl, hr, ⟨hnd, hbs⟩, hkp⟩ ⟨s3, d, hd, rd⟩
      have e3 : ds.take (i + 1) = ds.take i ++ [d] := by rw [List.take_add_one, hd]; rfl
      obtain ⟨pre', post, e4, e5⟩ := lcAll_take e2 (i + 1)
      have e4' := e4
      rw [e3, lcAll_snoc, hpre] at e4
      simp only [Option.bind_some] at e4
      obtain ⟨ys, e6, rfl⟩ := Option.map_eq_some_iff.mp e4
      obtain ⟨ρ', e7, e8⟩ := Option.bind_eq_some_iff.mp e6
      obtain ⟨b, e9, e10⟩ := Option.bind_eq_some_iff.mp e8
      have hD3 : H3 Dl = some (.lst (bs.map V.ref)) := s3 _ _ hDl
      have all3 : ∀ b o, H1 b = some o → H3 b = some o := fun b o e => s3 b o (hkp b o e)
      have sm : Same H1 H3 := all3
      have fr3 : Fre (fun b => P b ∧ b ≠ Dl) H3 := fre_minus (fr1.same sm) (by rw [hD3]; simp)
      have er3 : ER X.mg (fun b => P b ∧ b ≠ Dl) ks' H3 (L2.wipe σ (own.map (·.2))) (wipeE ρ (own.map (·.2))) := ER.wipe (er1.mono sm fun a ha pa => ⟨pa, fun e => ha (e ▸ hD)⟩) hk
      refine ⟨_, _, _, d, rd, er3, e7, fun σ' er' hl hj => ⟨wipe_eq hl hj his, ?_⟩⟩
      refine ⟨_, ρ', b, fr3, er', e9, fun H4 s4 => ?_⟩
      have all4 : ∀ b o, H1 b = some o → H4 b = some o := fun b o e => s4 b o (all3 b o e)
      have eb : b = true := by
        have := (show some true = some b from e9)
        cases this; rfl
      subst eb
      rw [if_pos rfl] at e10
      refine iteT ?_
      obtain ⟨y, e11, rfl⟩ := Option.map_eq_some_iff.mp e10
      refine ⟨_, ρ', y, fr3.same s4, er'.same s4, e11, fun v H5 s5 r5 tn => ?_⟩
      have hD4 : H4 Dl = some (.lst (bs.map V.ref)) := s4 _ _ hD3
      have hD5 : H5 Dl = some (.lst (bs.map V.ref)) := s5 _ _ hD4
      have rl := ((hr.same s3).same s4).same s5
      have hy : isLst y = true := hall y (by rw [e5]; simp)
      obtain ⟨a, us, xs, rfl, rfl, ha5, na4⟩ : ∃ a us xs, v = .ref a ∧ y = .lst xs ∧ H5 a = some (.lst us) ∧ H4 a = none := by
        cases y <;> simp only [isLst] at hy <;> first | (cases hy; done) | skip
        simp only [Rep] at r5
        obtain ⟨a, us, rfl, _, ha, _⟩ := r5
        exact ⟨a, us, _, rfl, rfl, ha, tn a rfl⟩
      have aD : a ≠ Dl := fun z => by rw [z, hD4] at na4; cases na4
      have some4 : ∀ b ∈ bs, H4 b ≠ none := fun b hb z => by
        have := (hbs b hb).2.2
        cases hq : H2 b with
        | none => exact this hq
        | some o => rw [s4 b o (s3 b o hq)] at z; cases z
      refine ⟨bs.map V.ref, hD5, ?_, bs ++ [a], pre ++ [.lst xs], e4', by rw [upd_same, List.map_append]; rfl, ?_, ⟨?_, fun b hb => ?_⟩, fun b o e => ?_⟩
      · rw [rl.len]
        have : outs.length = (pre ++ [D.lst xs]).length + post.length := by rw [e5, List.length_append]
        rw [List.length_append, List.length_singleton] at this
        omega
      · have r6 : RepL (fun b => P b ∧ b ≠ Dl) H5 (pre ++ [.lst xs]) ((bs ++ [a]).map V.ref) := by
          rw [List.map_append]
          exact rl.app (by simp only [List.map_cons, List.map_nil, RepL]; exact ⟨_, [], rfl, r5, rfl⟩)
        exact RepL.chg (by rw [hD5]; trivial) (fun z => z.2 rfl) _ _ r6
      · rw [List.nodup_append]
        refine ⟨hnd, by simp, fun x hx y hy z => ?_⟩
        rw [List.mem_singleton.mp hy] at z
        subst z
        exact some4 _ hx na4
      · have up : ∀ b, H5 b ≠ none → upd H5 Dl (.lst (bs.map V.ref ++ [V.ref a])) b ≠ none := fun b hb => by
          by_cases c : b = Dl
          · rw [c, upd_same]; simp
          · rw [upd_ne c]; exact hb
        rcases List.mem_append.mp hb with hb | hb
        · refine ⟨(hbs b hb).1, (hbs b hb).2.1, up b ?_⟩
          intro z
          cases hq : H4 b with
          | none => exact some4 b hb hq
          | some o => rw [s5 b o hq] at z; cases z
        · rw [List.mem_singleton.mp hb]
          refine ⟨?_, aD, up a (by rw [ha5]; simp)⟩
          cases hq : H1 a with
          | none => rfl
          | some o => rw [all4 a o hq] at na4; cases na4
      · rw [upd_ne (ne_of_none e hD)]
        exact s5 b o (all4 b o e)
    · rintro H2 ⟨bs, pre, hpre, hDl, hr, ⟨hnd, hbs⟩, hkp⟩
      rw [List.take_length, e2] at hpre
      cases hpre
      exact k _ H2 (s1.trans hkp) ⟨_, Dl, bs, rfl, rfl, s1.free hD, hDl, hr, hnd, fun b hb => ⟨s1.free (hbs b hb).1, (hbs b hb).2.1⟩⟩
  · cases ev0
def isAtm : D → Bool
  | .str _ => true
  | .int _ => true
  | .bl _ => true
  | .non => true
  | _ => false
def atmL : D → Bool
  | .lst xs => xs.all isAtm
  | _ => false
theorem Rep.atm {P P' : Addr → Prop} {H H' : Hp} {d : D} {v : V} (h : isAtm d = true) (r : Rep P H d v) : Rep P' H' d v := by
  cases d <;> simp only [isAtm] at h <;> first | (cases h; done) | (simp only [Rep] at r ⊢; exact r)
theorem RepL.atm {P P' : Addr → Prop} {H H' : Hp} : ∀ {ds : List D} {vs : List V}, ds.all isAtm = true → RepL P H ds vs → RepL P' H' ds vs
  | [], vs, _, r => by simp only [RepL] at r ⊢; exact r
  | d :: ds, vs, h, r => by
    rw [List.all_cons, Bool.and_eq_true] at h
    simp only [RepL] at r ⊢
    obtain ⟨v, w, e, r1, r2⟩ := r
    exact ⟨v, w, e, Rep.atm h.1 r1, RepL.atm h.2 r2⟩
theorem RepL.ofGet {P : Addr → Prop} {H : Hp} : ∀ {ds : List D} {vs : List V}, vs.length = ds.length → (∀ (p : Nat) (d : D) (v : V), ds[p]? = some d → vs[p]? = some v → Rep P H d v) → RepL P H ds vs
  | [], [], _, _ => by simp only [RepL]
  | [], _ :: _, h, _ => by cases h
  | _ :: _, [], h, _ => by cases h
  | d :: ds, v :: vs, h, g => by
    simp only [RepL]
    exact ⟨v, vs, rfl, g 0 d v rfl rfl, RepL.ofGet (by simpa using h) fun p d' v' e1 e2 => g (p + 1) d' v' (by simpa using e1) (by simpa using e2)⟩
def lstOf : D → Option (List D)
  | .lst xs => some xs
  | _ => none
def intOf : D → Option Int
  | .int n => some n
  | _ => none
theorem lstOf_some {d : D} {xs : List D} (h : lstOf d = some xs) : d = .lst xs := by
  cases d <;> simp only [lstOf] at h <;> first | (cases h; done) | (cases h; rfl)
theorem intOf_some {d : D} {n : Int} (h : intOf d = some n) : d = .int n := by
  cases d <;> simp only [intOf] at h <;> first | (cases h; done) | (cases h; rfl)
/-- o[k1][k2] = v -/
def nestD (o k1 k2 v : D) : Option D := (lstOf o).bind fun ds => (intOf k1).bind fun n => (intOf k2).bind fun m => (L2.ixN ds.length n).bind fun i => (ds[i]?.bind lstOf).bind fun xs => (L2.ixN xs.length m).map fun j => .lst (ds.set i (.lst (xs.set j v)))
def allAtm : D → Bool
  | .lst ds => ds.all atmL
  | _ => false
def sNest (i : Nat) (f f1 f2 g : SE) (h : SS) : SS := fun F ρ => (f F ρ).bind fun o => if allAtm o = true then (cV i F (ρ.set i (some o))).bind fun _ => (g F (ρ.set i (some o))).bind fun v => if isAtm v = true then (f1 F (ρ.set i (some o))).bind fun k1 => (f2 F (ρ.set i (some o))).bind fun k2 => (nestD o k1 k2 v).bind fun d => h F (ρ.set i (some d)) else none else none
theorem ixN_lt {n : Nat} {k : Int} {i : Nat} (h : L2.ixN n k = some i) : i < n := by
  unfold L2.ixN at h
  split at h
  · split at h
    · cases h; omega
    · cases h
  · split at h
    · cases h; omega
    · cases h
theorem evSs_nest {X : Cx} {ks : Ks} {F : Fn} {i : Nat} {x : Str} {e0 i1 i2 e : Expr} {p0 p1 p2 p3 pos1 pos2 : Pos} {rest : List Stmt} {f f1 f2 g : SE} {h : SS} (hN : X.N.Nodup) (hi : X.N[i]? = some x) (hv : Vis X.env.scope x) (hd : (x == ("__debug__" : Str)) = false) (hcd : (x == ("__classdict__" : Str)) = false) (hk : kd ks i = .M)
    (hlc : X.env.scope.names.lookup x = some .local) (hsw : swapsWith e0 (some (.Name x p0)) pos1.line X.env = pure true) (hl : EvNL X ks F e0 f) (hg : EvE X ks F e g) (h1 : EvP X ks F i1 f1) (h2 : EvP X ks F i2 f2) (hp1 : plainIx i1 = true) (hp2 : plainKey i2 = true)
    (hs : swapsWithSole [.Subscript (.Subscript (.Name x p1) i1 p2) i2 p3] e pos2.line X.env = pure false) (hw : swappedStores [.Subscript (.Subscript (.Name x p1) i1 p2) i2 p3] e X.env = pure none) (hr : EvSs X ks F rest h) :
    EvSs X ks F (.Assign [.Name x p0] e0 pos1 :: .Assign [.Subscript (.Subscript (.Name x p1) i1 p2) i2 p3] e pos2 :: rest) (sNest i f f1 f2 g h) := by
  obtain ⟨t, p, q⟩ := hl.ex
  obtain ⟨tv, pv, qv⟩ := hg.ex
  obtain ⟨t1, pt1, q1⟩ := h1.ex
  obtain ⟨t2, pt2, q2⟩ := h2.ex
  obtain ⟨t', p', q'⟩ := hr.ex
  refine ⟨tSeq (tAsg t (gName i)) (tSeq (tAsg tv (gSub (tOp (rIx X.K) (tVar i) t1) t2 rSetL)) t'), pss_cons (p i x p0 pos1 hi hlc hsw) (pss_cons (ps_asg pv (pg_sub (pe_ix ix_seq (pe_var hi hv hd hcd) pt1 (plainIx_ok hp1)) pt2 set_list (assign_sub hp2 X.env)) hs hw rfl) p'), fun Hb Pe P H σ ρ D r sr ev k => ?_⟩
  obtain ⟨o, e1, ev1⟩ := Option.bind_eq_some_iff.mp ev
  split at ev1
  · rename_i hatm
    obtain ⟨o', ecv, ev1⟩ := Option.bind_eq_some_iff.mp ev1
    have hil : i < σ.length := by
      have := (List.getElem?_eq_some_iff.mp (cV_some ecv)).1
      rw [List.length_set, sr.er.1] at this
      exact this
    obtain ⟨vd, e2, ev2⟩ := Option.bind_eq_some_iff.mp ev1
    split at ev2
    · rename_i hva
      obtain ⟨k1, e3, ev3⟩ := Option.bind_eq_some_iff.mp ev2
      obtain ⟨k2, e4, ev4⟩ := Option.bind_eq_some_iff.mp ev3
      obtain ⟨nd, e5, ev5⟩ := Option.bind_eq_some_iff.mp ev4
      refine q σ H P ρ _ o sr.fre sr.er e1 fun vv H1 s1 ⟨ds, Dl, bs, eo, evv, nDl, hDl, hrl, hnd, hbs⟩ => ?_
      subst eo evv
      have rr : Rep P H1 (.lst ds) (.ref Dl) := by
        simp only [Rep]
        exact ⟨Dl, _, rfl, sr.fre Dl nDl, hDl, hrl.weak fun a z => z.1⟩
      obtain ⟨P1, sub, ext, fr1, ft, _⟩ := new_fits sr hk s1 rr (topNew_ref nDl) (fun _ a ea => by cases ea; rw [hDl]; trivial)
      have sr1 := (sr.shrink s1 sub ext fr1).set ft
      refine qv _ H1 P1 _ _ vd sr1.fre sr1.er e2 fun z H2 s2 rz => ?_
      refine ⟨.ref Dl, List.getElem?_set_self hil, q1 _ H2 P1 _ _ k1 (sr1.fre.same s2) (sr1.er.same s2) e3 fun y H3 s3 ry => ?_⟩
      -- the places
      unfold nestD at e5
      obtain ⟨ds', q1', e5⟩ := Option.bind_eq_some_iff.mp e5
      have q1' := lstOf_some q1'
      cases q1'
      obtain ⟨n, q2', e5⟩ := Option.bind_eq_some_iff.mp e5
      have eq2 := intOf_some q2'
      obtain ⟨m, q3', e5⟩ := Option.bind_eq_some_iff.mp e5
      have eq3 := intOf_some q3'
      obtain ⟨i', ei, e6⟩ := Option.bind_eq_some_iff.mp e5
      obtain ⟨xs, hxs', e6⟩ := Option.bind_eq_some_iff.mp e6
      obtain ⟨dr, hdr, hxs'⟩ := Option.bind_eq_some_iff.mp hxs'
      have hxs : ds[i']? = some (.lst xs) := by rw [hdr, lstOf_some hxs']
      obtain ⟨j, ej, e7⟩ := Option.map_eq_some_iff.mp e6
      subst e7
      have hlenb : bs.length = ds.length := by
        have := hrl.len
        rw [List.length_map] at this
        exact this
      have hi' := ixN_lt ei
      have hb? : (bs.map V.ref)[i']? = some (.ref bs[i']) := by simp [hlenb, hi']
      have hbm : bs[i'] ∈ bs := List.getElem_mem _
      obtain ⟨nb, bD⟩ := hbs _ hbm
      have s13 : Same H1 H3 := s2.trans s3
      rw [eq2] at ry
      simp only [RepB] at ry
      refine .inl ⟨Dl, bs.map V.ref, n, .ref bs[i'], rfl, ry, SqL.of (s13 _ _ hDl), ?_, ?_⟩
      · unfold L2.atI
        have ei2 : L2.ixN bs.length n = some i' := by rw [hlenb]; exact ei
        rw [List.length_map, ei2]
        exact hb?
      refine q2 _ H3 P1 _ _ k2 (sr1.fre.same s13) (sr1.er.same s13) e4 fun w H4 s4 rw' => ?_
      have s14 : Same H1 H4 := s13.trans s4
      rw [eq3] at rw'
      simp only [RepB] at rw'
      obtain ⟨u0, eu0, ru⟩ := hrl.get hxs
      rw [hb?] at eu0
      cases eu0
      simp only [Rep] at ru
      obtain ⟨b0, ys, eb0, _, hys, rys⟩ := ru
      cases eb0
      have hatm' : ∀ p d, ds[p]? = some d → atmL d = true := fun p d hp => by
        have : ds.all atmL = true := hatm
        rw [List.all_eq_true] at this
        exact this d (List.mem_of_getElem? hp)
      have hxa : xs.all isAtm = true := hatm' i' _ hxs
      refine ⟨bs[i'], ys, m, j, rfl, rw', s14 _ _ hys, by rw [rys.len]; exact ej, ?_⟩
      -- what stands behind
      have sHH : Same H (upd H4 bs[i'] (.lst (ys.set j z))) := fun c o hc => by
        have : c ≠ bs[i'] := fun y => by rw [y, nb] at hc; cases hc
        rw [upd_ne this]
        exact s14 _ _ (s1 _ _ hc)
      have hDHH : upd H4 bs[i'] (.lst (ys.set j z)) Dl = some (.lst (bs.map V.ref)) := by
        rw [upd_ne (Ne.symm bD)]
        exact s14 _ _ hDl
      have RR : Rep P (upd H4 bs[i'] (.lst (ys.set j z))) (.lst (ds.set i' (.lst (xs.set j vd)))) (.ref Dl) := by
        simp only [Rep]
        refine ⟨Dl, bs.map V.ref, rfl, sr.fre Dl nDl, hDHH, RepL.ofGet (by rw [List.length_map, List.length_set, hlenb]) fun p d v hp hvp => ?_⟩
        by_cases c : p = i'
        · subst c
          rw [List.getElem?_set_self hi'] at hp
          cases hp
          rw [hb?] at hvp
          cases hvp
          simp only [Rep]
          refine ⟨_, ys.set j z, rfl, sr.fre _ nb, upd_same, ?_⟩
          exact RepL.upd (Rep.atm hva rz) j (RepL.atm hxa rys)
        · rw [List.getElem?_set_ne (Ne.symm c)] at hp
          obtain ⟨v', ev', rv'⟩ := hrl.get hp
          rw [ev'] at hvp
          cases hvp
          have ha := hatm' p d hp
          cases d <;> simp only [atmL] at ha <;> first | (cases ha; done) | skip
          simp only [Rep] at rv' ⊢
          obtain ⟨a, us, rfl, _, hus, rus⟩ := rv'
          have hab : a ∈ bs ∧ a ≠ bs[i'] := by
            have hpl : p < bs.length := by
              have := (List.getElem?_eq_some_iff.mp ev').1
              rw [List.length_map] at this
              exact this
            have e9 : bs[p] = a := by
              rw [List.getElem?_map, List.getElem?_eq_getElem hpl] at ev'
              have := Option.some.inj ev'
              injection this
            refine ⟨e9 ▸ List.getElem_mem _, fun z => c ?_⟩
            rw [← e9] at z
            exact (List.getElem_inj hnd).mp z
          refine ⟨a, us, rfl, sr.fre _ (hbs a hab.1).1, ?_, RepL.atm ha rus⟩
          rw [upd_ne hab.2]
          exact s14 _ _ hus
      obtain ⟨P5, sub5, ext5, fr5, ft5, _⟩ := new_fits sr hk sHH RR (topNew_ref nDl) (fun _ a ea => by cases ea; rw [hDHH]; trivial)
      exact q' Hb Pe P5 _ _ _ D r ((sr.shrink sHH sub5 ext5 fr5).set ft5) ev5 (k.after ((Frm.shrink sHH sub5 ext5).trans (Frm.set (.inr hk))))
    · cases ev2
  · cases ev1
end RE
/-! RE13: a, b = x, y. -/
namespace RE
open PySem PySem.Spec PyProof.Rows L2
section
variable {X : Cx} {ks : Ks} {F : Fn} {pos : Pos}
theorem Chg.same {H H' : Hp} {a : Addr} (s : Same H H') (c : Chg (H a)) : Chg (H' a) := by
  cases h : H a with
  | none => rw [h] at c; exact c.elim
  | some o => rw [s a o h, ← h]; exact c
theorem Fits.mono {mg : Str → Option Value} {Hb : Hp} {P P' : Addr → Prop} {H H' : Hp} {σ : L2.St} {ρ : RE.Env} {i : Nat} {d : D} {v : V} (s : Same H H') (sub : ∀ a, P' a → P a) (ext : ∀ a, H a ≠ none → P a → P' a) (h : Fits mg Hb P ks H σ ρ i d v) : Fits mg Hb P' ks H' σ ρ i d v := by
  unfold Fits at h ⊢
  cases hk : kd ks i with
  | F => rw [hk] at h; exact Rep.mono s ext _ _ h
  | L => rw [hk] at h; exact h
  | B => rw [hk] at h; exact h
  | M =>
    rw [hk] at h
    refine ⟨⟨RepB.mono s ext h.1.1, h.1.2⟩, fun m => ?_⟩
    obtain ⟨a, h1, h2, h3, h4, h5⟩ := h.2 m
    exact ⟨a, h1, h2, fun p => h3 (sub a p), h4.same s, h5⟩
/-- two own things stand apart -/
def Apart (ks : Ks) (i : Nat) (d : D) (v : V) (j : Nat) (e : D) (w : V) : Prop := kd ks i = .M → kd ks j = .M → isMut d = true → isMut e = true → ∀ a, v = .ref a → w ≠ .ref a
def AllApart (ks : Ks) (i : Nat) (d : D) (v : V) : List Nat → List D → List V → Prop
  | [], [], [] => True
  | j :: js, e :: es, w :: ws => Apart ks i d v j e w ∧ AllApart ks i d v js es ws
  | _, _, _ => False
def FitsL (mg : Str → Option Value) (Hb : Hp) (P : Addr → Prop) (ks : Ks) (H : Hp) (σ : L2.St) (ρ : RE.Env) : List Nat → List D → List V → Prop
  | [], [], [] => True
  | i :: is, d :: ds, v :: vs => Fits mg Hb P ks H σ ρ i d v ∧ AllApart ks i d v is ds vs ∧ FitsL mg Hb P ks H σ ρ is ds vs
  | _, _, _ => False
def setAll {α : Type} (l : List (Option α)) : List Nat → List α → List (Option α)
  | i :: is, d :: ds => setAll (l.set i (some d)) is ds
  | _, _ => l
theorem Fits.after {mg : Str → Option Value} {Hb : Hp} {P : Addr → Prop} {H : Hp} {σ : L2.St} {ρ : RE.Env} {i j : Nat} {d e : D} {v w : V} (hi : kd ks i = .F ∨ kd ks i = .M) (h : Fits mg Hb P ks H σ ρ j e w) (ap : Apart ks i d v j e w) : Fits mg Hb P ks H (σ.set i (some v)) (ρ.set i (some d)) j e w := by
  unfold Fits at h ⊢
  cases hk : kd ks j with
  | F => rw [hk] at h; exact h
  | L => rw [hk] at h; exact h
  | B => rw [hk] at h; exact h
  | M =>
    rw [hk] at h
    refine ⟨h.1, fun m => ?_⟩
    obtain ⟨a, h1, h2, h3, h4, h5⟩ := h.2 m
    refine ⟨a, h1, h2, h3, h4, fun l x lj kl q mx z => ?_⟩
    by_cases il : i = l
    · subst il
      have hi1 : i < ρ.length := by
        rw [← List.length_set (i := i) (a := some d)]
        exact (List.getElem?_eq_some_iff.mp q).1
      have hi2 : i < σ.length := by
        rw [← List.length_set (i := i) (a := some v)]
        exact (List.getElem?_eq_some_iff.mp z).1
      rw [List.getElem?_set_self hi1] at q
      rw [List.getElem?_set_self hi2] at z
      cases q; cases z
      rcases kl with kl | kl
      · exact ap kl hk mx m a rfl h1
      · rw [kl] at hi; rcases hi with y | y <;> cases y
    · rw [List.getElem?_set_ne il] at q z
      exact h5 l x lj kl q mx z
theorem FitsL.after {mg : Str → Option Value} {Hb : Hp} {P : Addr → Prop} {H : Hp} {σ : L2.St} {ρ : RE.Env} {i : Nat} {d : D} {v : V} (hi : kd ks i = .F ∨ kd ks i = .M) : ∀ {js : List Nat} {es : List D} {ws : List V}, FitsL mg Hb P ks H σ ρ js es ws → AllApart ks i d v js es ws → FitsL mg Hb P ks H (σ.set i (some v)) (ρ.set i (some d)) js es ws
  | [], [], [], _, _ => trivial
  | j :: js, e :: es, w :: ws, h, ap => ⟨Fits.after hi h.1 ap.1, h.2.1, FitsL.after hi h.2.2 ap.2⟩
  | [], _ :: _, _, h, _ => h.elim
  | [], [], _ :: _, h, _ => h.elim
  | _ :: _, [], _, h, _ => h.elim
  | _ :: _, _ :: _, [], h, _ => h.elim
theorem SR.setAll {mg : Str → Option Value} {Hb : Hp} {Pe P : Addr → Prop} {H : Hp} : ∀ {is : List Nat} {ds : List D} {vs : List V} {σ : L2.St} {ρ : RE.Env}, (∀ i ∈ is, kd ks i = .F ∨ kd ks i = .M) → SR mg Hb Pe P ks H σ ρ → FitsL mg Hb P ks H σ ρ is ds vs →
    SR mg Hb Pe P ks H (setAll σ is vs) (setAll ρ is ds) ∧ Frm ks P H σ ρ P H (setAll σ is vs) (setAll ρ is ds)
  | [], [], [], σ, ρ, _, sr, _ => ⟨sr, Frm.refl⟩
  | i :: is, d :: ds, v :: vs, σ, ρ, hk, sr, h => by
    have sr1 := sr.set h.1
    have hi := hk i (List.mem_cons_self)
    obtain ⟨a, b⟩ := SR.setAll (fun j hj => hk j (List.mem_cons_of_mem _ hj)) sr1 (FitsL.after hi h.2.2 h.2.1)
    exact ⟨a, (Frm.set hi).trans b⟩
  | [], _ :: _, _, _, _, _, _, h => h.elim
  | [], [], _ :: _, _, _, _, _, h => h.elim
  | _ :: _, [], _, _, _, _, _, h => h.elim
  | _ :: _, _ :: _, [], _, _, _, _, h => h.elim
theorem FitsL.mono {mg : Str → Option Value} {Hb : Hp} {P P' : Addr → Prop} {H H' : Hp} {σ : L2.St} {ρ : RE.Env} (s : Same H H') (sub : ∀ a, P' a → P a) (ext : ∀ a, H a ≠ none → P a → P' a) : ∀ {is : List Nat} {ds : List D} {vs : List V}, FitsL mg Hb P ks H σ ρ is ds vs → FitsL mg Hb P' ks H' σ ρ is ds vs
  | [], [], [], _ => trivial
  | i :: is, d :: ds, v :: vs, h => ⟨h.1.mono s sub ext, h.2.1, FitsL.mono s sub ext h.2.2⟩
  | [], _ :: _, _, h => h.elim
  | [], [], _ :: _, h => h.elim
  | _ :: _, [], _, h => h.elim
  | _ :: _, _ :: _, [], h => h.elim
/-- values for slots, one after another -/
structure EvV (X : Cx) (ks : Ks) (F : Fn) (is : List Nat) (es : List Expr) (f : SA) : Prop where
  ex : ∃ t : TA, PA X es t ∧ ∀ Hb Pe P H σ ρ (Q : List V → Hp → Prop) ds, SR X.mg Hb Pe P ks H σ ρ → f F ρ = some ds →
    (∀ P' vs H', Same H H' → SR X.mg Hb Pe P' ks H' σ ρ → Frm ks P H σ ρ P' H' σ ρ → FitsL X.mg Hb P' ks H' σ ρ is ds vs → (∀ j d v, kd ks j = .M → (isMut d = true → ∀ a, v = .ref a → H a ≠ none) → AllApart ks j d v is ds vs) → Q vs H') → t σ H Q
theorem evV_nil : EvV X ks F [] [] cNil :=
  ⟨tNil, pa_nil, fun Hb Pe P H σ ρ Q ds sr ev k => by
    cases ev
    exact k P [] H (Same.refl H) sr Frm.refl trivial fun _ _ _ _ _ => trivial⟩
theorem evV_consF {i : Nat} {is : List Nat} {e : Expr} {es : List Expr} {f : SE} {g : SA} (hk : kd ks i = .F) (hn : noStar e = true) (h : EvE X ks F e f) (hr : EvV X ks F is es g) : EvV X ks F (i :: is) (e :: es) (cCons f g) := by
  obtain ⟨t, p, q⟩ := h.ex
  obtain ⟨t', p', q'⟩ := hr.ex
  refine ⟨tCons t t', pa_cons p p' (starEach_cons (noStar_ne hn)), fun Hb Pe P H σ ρ Q ds sr ev k => ?_⟩
  obtain ⟨d, e1, ev⟩ := Option.bind_eq_some_iff.mp ev
  obtain ⟨ds', e2, ev⟩ := Option.bind_eq_some_iff.mp ev
  cases ev
  refine q σ H P ρ _ d sr.fre sr.er e1 fun v H1 s1 r1 => ?_
  refine q' Hb Pe P H1 σ ρ _ ds' (sr.same s1) e2 fun P2 vs H2 s2 sr2 fm2 ft ap => ?_
  have f1 : Fits X.mg Hb P ks H1 σ ρ i d v := by unfold Fits; rw [hk]; exact r1
  refine k P2 _ H2 (s1.trans s2) sr2 ((Frm.of_same s1).trans fm2) ⟨f1.mono s2 fm2.sub fm2.ext, ?_, ft⟩ fun j d' v' hj hm => ⟨(fun _ z => by rw [hk] at z; cases z), ap j d' v' hj fun m a ea => ?_⟩
  · have : ∀ (js : List Nat) (es : List D) (ws : List V), FitsL X.mg Hb P2 ks H2 σ ρ js es ws → AllApart ks i d v js es ws := by
      intro js
      induction js with
      | nil => intro es ws h; cases es <;> cases ws <;> first | trivial | exact h.elim
      | cons j js ih =>
        intro es ws h
        cases es with
        | nil => exact h.elim
        | cons e es =>
          cases ws with
          | nil => exact h.elim
          | cons w ws => exact ⟨(fun z => by rw [hk] at z; cases z), ih es ws h.2.2⟩
    exact this _ _ _ ft
  · exact fun z => hm m a ea (s1.free z)
theorem evV_consM {i : Nat} {is : List Nat} {e : Expr} {es : List Expr} {f : SE} {g : SA} (hk : kd ks i = .M) (hn : noStar e = true) (h : EvM X ks F e f) (hr : EvV X ks F is es g) : EvV X ks F (i :: is) (e :: es) (cCons f g) := by
  obtain ⟨t, p, q⟩ := h.ex
  obtain ⟨t', p', q'⟩ := hr.ex
  refine ⟨tCons t t', pa_cons p p' (starEach_cons (noStar_ne hn)), fun Hb Pe P H σ ρ Q ds sr ev k => ?_⟩
  obtain ⟨d, e1, ev⟩ := Option.bind_eq_some_iff.mp ev
  obtain ⟨ds', e2, ev⟩ := Option.bind_eq_some_iff.mp ev
  cases ev
  refine q σ H P ρ _ d sr.fre sr.er e1 fun v H1 s1 ⟨r1, tn, un⟩ => ?_
  obtain ⟨P1, sub1, ext1, fr1, f1, _⟩ := new_fits sr hk s1 r1 tn un
  refine q' Hb Pe P1 H1 σ ρ _ ds' (sr.shrink s1 sub1 ext1 fr1) e2 fun P2 vs H2 s2 sr2 fm2 ft ap => ?_
  refine k P2 _ H2 (s1.trans s2) sr2 ((Frm.shrink s1 sub1 ext1).trans fm2) ⟨f1.mono s2 fm2.sub fm2.ext, ap i d v hk fun m a ea z => ?_, ft⟩ fun j d' v' hj hm => ⟨fun _ _ m1 m2 a ea ew => ?_, ap j d' v' hj fun m a ea z => hm m a ea (s1.free z)⟩
  · have := un m a ea
    rw [z] at this
    exact this
  · refine hm m1 a ea ?_
    subst ew
    cases d <;> simp only [isMut] at m2 <;> first | (cases m2; done) | exact tn a rfl
def sPar (is : List Nat) (f : SA) : SS := fun F ρ => (f F ρ).map fun ds => .nx (setAll ρ is ds)
theorem evS_par2 {i j : Nat} {x y : Str} {a b : Expr} {f : SA} {px py pt : Pos} {kt k2 pt2} (hc : X.calm = true) (hN : X.N.Nodup) (hi : X.N[i]? = some x) (hj : X.N[j]? = some y) (hij : i ≠ j)
    (hx : X.env.scope.names.lookup x = some .local) (hy : X.env.scope.names.lookup y = some .local) (hk : ∀ l ∈ [i, j], kd ks l = .F ∨ kd ks l = .M) (ha : EvV X ks F [i, j] [a, b] f)
    (hw : swappedStores [.Tuple [.Name x px, .Name y py] kt pt] (.Tuple [a, b] k2 pt2) X.env = pure (some [x, y])) :
    EvS X ks F (.Assign [.Tuple [.Name x px, .Name y py] kt pt] (.Tuple [a, b] k2 pt2) pos) (sPar [i, j] f) := by
  obtain ⟨t, p, q⟩ := ha.ex
  refine ⟨tPar i j t, ps_par hc hN hi hj hij hx hy p hw rfl, fun Hb Pe P H σ ρ D r sr ev k => ?_⟩
  obtain ⟨ds, e1, rfl⟩ := Option.map_eq_some_iff.mp ev
  refine q Hb Pe P H σ ρ _ ds sr e1 fun P1 vs H1 s1 sr1 fm ft _ => ?_
  match ds, vs, ft with
  | [], [], ft => exact ft.elim
  | [_], [_], ft => exact ft.2.2.elim
  | _ :: _ :: _ :: _, _ :: _ :: _ :: _, ft => exact ft.2.2.2.2.elim
  | [], _ :: _, ft => exact ft.elim
  | _ :: _, [], ft => exact ft.elim
  | [_], _ :: _ :: _, ft => exact ft.2.2.elim
  | _ :: _ :: _, [_], ft => exact ft.2.2.elim
  | [_, _], _ :: _ :: _ :: _, ft => exact ft.2.2.2.2.elim
  | _ :: _ :: _ :: _, [_, _], ft => exact ft.2.2.2.2.elim
  | [d1, d2], [v1, v2], ft =>
    obtain ⟨sr2, fm2⟩ := SR.setAll hk sr1 ft
    exact ⟨v1, v2, rfl, k P1 _ H1 sr2 (fm.trans fm2)⟩
theorem evS_par3 {i j l : Nat} {x y z : Str} {a b c : Expr} {f : SA} {px py pz pt : Pos} {kt k2 pt2} (hc : X.calm = true) (hN : X.N.Nodup) (hi : X.N[i]? = some x) (hj : X.N[j]? = some y) (hl : X.N[l]? = some z) (hij : i ≠ j) (hil : i ≠ l) (hjl : j ≠ l)
    (hx : X.env.scope.names.lookup x = some .local) (hy : X.env.scope.names.lookup y = some .local) (hz : X.env.scope.names.lookup z = some .local) (hk : ∀ n ∈ [i, j, l], kd ks n = .F ∨ kd ks n = .M) (ha : EvV X ks F [i, j, l] [a, b, c] f)
    (hw : swappedStores [.Tuple [.Name x px, .Name y py, .Name z pz] kt pt] (.Tuple [a, b, c] k2 pt2) X.env = pure (some [x, y, z])) :
    EvS X ks F (.Assign [.Tuple [.Name x px, .Name y py, .Name z pz] kt pt] (.Tuple [a, b, c] k2 pt2) pos) (sPar [i, j, l] f) := by
  obtain ⟨t, p, q⟩ := ha.ex
  refine ⟨tPar3 i j l t, ps_par3 hc hN hi hj hl hij hil hjl hx hy hz p hw rfl, fun Hb Pe P H σ ρ D r sr ev k => ?_⟩
  obtain ⟨ds, e1, rfl⟩ := Option.map_eq_some_iff.mp ev
  refine q Hb Pe P H σ ρ _ ds sr e1 fun P1 vs H1 s1 sr1 fm ft _ => ?_
  match ds, vs, ft with
  | [], [], ft => exact ft.elim
  | [_], [_], ft => exact ft.2.2.elim
  | [_, _], [_, _], ft => exact ft.2.2.2.2.elim
  | _ :: _ :: _ :: _ :: _, _ :: _ :: _ :: _ :: _, ft => exact ft.2.2.2.2.2.2.elim
  | [], _ :: _, ft => exact ft.elim
  | _ :: _, [], ft => exact ft.elim
  | [_], _ :: _ :: _, ft => exact ft.2.2.elim
  | _ :: _ :: _, [_], ft => exact ft.2.2.elim
  | [_, _], _ :: _ :: _ :: _, ft => exact ft.2.2.2.2.elim
  | _ :: _ :: _ :: _, [_, _], ft => exact ft.2.2.2.2.elim
  | [_, _, _], _ :: _ :: _ :: _ :: _, ft => exact ft.2.2.2.2.2.2.elim
  | _ :: _ :: _ :: _ :: _, [_, _, _], ft => exact ft.2.2.2.2.2.2.elim
  | [d1, d2, d3], [v1, v2, v3], ft =>
    obtain ⟨sr2, fm2⟩ := SR.setAll hk sr1 ft
    exact ⟨v1, v2, v3, rfl, k P1 _ H1 sr2 (fm.trans fm2)⟩
end
end RE
/-! RE13b: methods of texts. -/
namespace RE
open PySem PySem.Spec PyProof.Rows L2

def strsD : List D → Option (List Str)
  | [] => some []
  | .str b :: xs => (strsD xs).map (b :: ·)
  | _ :: _ => none
theorem RepL.strs {P : Addr → Prop} {H : Hp} : ∀ {ds : List D} {bs : List Str} {vs : List V}, strsD ds = some bs → RepL P H ds vs → vs = bs.map V.str
  | [], bs, vs, e, h => by simp only [strsD] at e; cases e; simp only [RepL] at h; subst h; rfl
  | d :: ds, bs, vs, e, h => by
    cases d <;> simp only [strsD] at e <;> first | (cases e; done) | skip
    obtain ⟨bs', e1, rfl⟩ := Option.map_eq_some_iff.mp e
    simp only [RepL, Rep] at h
    obtain ⟨v, r, rfl, rfl, h2⟩ := h
    rw [RepL.strs e1 h2]; rfl
/-- a.join(xs) -/
def joinS (a : Str) (xs : List D) : Option D := (strsD xs).bind fun ys => if (ys.map (·.length)).sum + ys.length * a.length ≤ 16777216 then some (.str (Txt.join a ys)) else none
def joinD (a : Str) : D → Option D
  | .lst xs => joinS a xs
  | .tup xs => joinS a xs
  | _ => none
theorem evN_join {X : Cx} {ks : Ks} {F : Fn} {a : Str} {e : Expr} {f : SE} {k : Nat} {p apos pos : Pos} (hs : noStar e = true) (hl : (apos.endLine == pos.line) = true) (h : EvP X ks F e f) :
    EvN X ks F (.Call (.Attribute (.Constant (.str a) k p) "join" apos) [e] [] pos) (cU (joinD a) f) := by
  obtain ⟨t, pt, q⟩ := h.ex
  refine ⟨_, pe_join (pe_str (x := a)) pt (starEach_cons (noStar_ne hs)) rfl hl, fun σ H P ρ Q d fr er ev kk => ?_⟩
  obtain ⟨x, e1, ev1⟩ := Option.bind_eq_some_iff.mp ev
  refine ⟨⟨a, rfl⟩, q σ H P ρ _ x fr er e1 fun v H1 s1 r1 => ?_⟩
  have fin : ∀ (xs : List D), joinS a xs = some d → ∃ ys, strsD xs = some ys ∧ (ys.map (·.length)).sum + ys.length * a.length ≤ 16777216 ∧ d = .str (Txt.join a ys) := by
    intro xs hx
    obtain ⟨ys, g1, g2⟩ := Option.bind_eq_some_iff.mp hx
    split at g2
    · rename_i c; cases g2; exact ⟨ys, g1, c, rfl⟩
    · cases g2
  cases x <;> simp only [joinD] at ev1 <;> first | (cases ev1; done) | skip
  · obtain ⟨ys, g1, g2, rfl⟩ := fin _ ev1
    obtain ⟨b, vs, rfl, h1, h2⟩ := r1.tup
    have := h2.strs g1
    subst this
    exact ⟨a, b, ys, rfl, rfl, .inr (SqT.of h1), g2, kk _ H1 s1 ⟨by simp only [Rep], trivial⟩⟩
  · obtain ⟨ys, g1, g2, rfl⟩ := fin _ ev1
    obtain ⟨b, vs, rfl, h1, h2⟩ := r1.lst
    have := h2.strs g1
    subst this
    exact ⟨a, b, ys, rfl, rfl, .inl (SqL.of h1), g2, kk _ H1 s1 ⟨by simp only [Rep], trivial⟩⟩
end RE
/-! RE13c0: lists of tuples can be sorted, empty ones among them. -/
namespace KS
open PySem PySem.SeqAt PySem.Calls PyProof.Rows PySem.W
section
variable {prog : Program} {w : World} {A : Around} {E : Value → Shared → Prop} {s : Shared}
/-- a tuple's own __lt__, called by a sort -/
theorem own_tuple_lt {Q : Value → Shared → Prop} {p q : Addr} {us vs : Array Value} {e r : Nat → Bool} (hp : s.heap.IsTuple p us) (hq : s.heap.IsTuple q vs)
    (he : ∀ j (h1 : j < us.size) (h2 : j < vs.size), EqAt A.in1 s us[j] vs[j] (e j)) (hr : ∀ j (h1 : j < us.size) (h2 : j < vs.size), e j = false → RcLt A.in1 s us[j] vs[j] (r j))
    (h : Q (.bool (firstLt e r (decide (us.size < vs.size)) (List.range (min us.size vs.size)))) s) : wpAny (model prog w) A (call (.builtin "tuple.__lt__") [.ref p, .ref q]) Q E s := by
  obtain ⟨⟨c1, d1, t1, z1⟩, o1, k1, m1, y1⟩ := id hp
  obtain ⟨⟨c2, d2, t2, z2⟩, o2, k2, m2, y2⟩ := id hq
  simp only at k1 y1 k2 y2
  subst k1 y1 k2 y2
  exact call_meets F.slot_tuple_lt ⟨_, o1, rfl⟩ F.entry_tuple_lt (F.args_tuple_lt_2 _ _) (tuple_ltAt p q us vs m1 m2 d1 d2 z1 z2 e r) ⟨o1, o2, he, hr, h⟩
def filled : PyData → Bool
  | .tuple (_ :: _) => true
  | _ => false
theorem first_things {M : Model} {A : Around} {E : Value → Shared → Prop} {s : Shared} : ∀ (us : List Value) (ds : List PyData) {Q : List (Option Value) → Shared → Prop}, EachIs (fun v d => ∃ as, Reads s.heap v d as) us ds → (∀ d, d ∈ ds → ∃ xs, d = .tuple xs) →
    (∀ fs : List (Option Value), fs.map (·.isSome) = ds.map filled → Q fs s) → wpAny M A (us.mapM firstOfTuple') Q E s
  | _, _, Q, .nil, _, h => by rw [List.mapM_nil]; exact wpAny_pure (h [] rfl)
  | u :: us, d :: ds, Q, .cons hr t, ht, h => by
    obtain ⟨xs, rfl⟩ := ht _ List.mem_cons_self
    obtain ⟨as, hr⟩ := hr
    cases hr with
    | @tuple p o ys n _ _ ho hc hd hl =>
      rw [List.mapM_cons]
      refine wpAny_bind ?_
      rw [kas_first_eq]
      refine wpAny_bind (Looks.here (show Looks M s.heap (typeOf (.ref p)) o.cls from (Looks.ld ho).andThen .now) ?_)
      rw [hc, if_neg (by first | decide | simp)]
      refine wpAny_bind (listItems_at ho hd (wpAny_pure ?_))
      have e : (ys[0]?).isSome = filled (.tuple xs) := by
        cases q : ys.toList with
        | nil =>
          rw [q] at hl
          cases hl
          rw [← Array.getElem?_toList, q]; rfl
        | cons f fr =>
          rw [q] at hl
          cases hl
          rw [← Array.getElem?_toList, q]; rfl
      refine wpAny_bind (first_things us ds t (fun d hd => ht d (List.mem_cons_of_mem _ hd)) fun fs hf => wpAny_pure (h _ ?_))
      rw [List.map_cons, List.map_cons, e, hf]
/-- all are tuples with a thing at least, or none is a tuple or None, or all are tuples -/
def Sort2 (ds : List PyData) : Prop := Sortable ds ∨ ∀ d, d ∈ ds → ∃ xs, d = .tuple xs
theorem one_type {us : List Value} {Q : SortKind → Shared → Prop} (h2 : us ≠ []) (hT : ∀ v ∈ us, Looks (model prog w) s.heap (typeOf v) (.type "tuple")) (h : Q oneType' s) :
    wpAny (model prog w) A (oneTypeOnly' us.toArray >>= fun x => pure (if x.isSome then oneType' else general')) Q E s := by
  obtain ⟨u, us, rfl⟩ : ∃ u v, us = u :: v := by
    cases us with
    | nil => exact absurd rfl h2
    | cons u v => exact ⟨u, v, rfl⟩
  rw [oneTypeOnly'_eq, List.mapM_toArray, map_eq_pure_bind]
  refine wpAny_bind (wpAny_bind (wpAny_bind (kas_mapM (r := Value.type "tuple") _ (fun v hv Q' hq => (hT v hv).here hq) (wpAny_pure ?_))))
  have a1 : ((List.map (fun _ => Value.type "tuple") (u :: us)).toArray.all fun x => x == Value.type "tuple") = true := by
    simp only [List.all_toArray, List.all_map, List.all_eq_true]
    intro _ _
    rfl
  have a0 : (List.map (fun _ => Value.type "tuple") (u :: us)).toArray[0]? = some (Value.type "tuple") := by simp
  rw [a0]
  simp only [a1, if_true]
  exact wpAny_pure (wpAny_pure h)
theorem sorts2 {us : List Value} {ds : List PyData} (e : EachIs (fun v d => ∃ as, Reads s.heap v d as) us ds) (hal : AllAlike ds) (hk : Sort2 ds) (hu : ∀ d, d ∈ ds → A.units + d.depth < cLine) : SortsAt prog w A s (dataKind s.heap ds) us := by
  rcases hk with hk | ht
  · exact SortsAt.data e hal hk hu
  · have room : ∀ {d d' : PyData}, d ∈ ds → A.units + min d.depth d'.depth < cLine := fun {d d'} hd => Nat.lt_of_le_of_lt (Nat.add_le_add_left (Nat.min_le_left _ _) _) (hu d hd)
    have keys : ∀ v, v ∈ us → ∃ a, (dataKind s.heap ds).keyOf v = some a := fun v hv => by
      obtain ⟨d, hd, as, r⟩ := e.left v hv
      exact ⟨_, dataKind_some hal hd r⟩
    have looks : ∀ v ∈ us, Looks (model prog w) s.heap (typeOf v) (.type "tuple") := fun v hv => by
      obtain ⟨d, hd, as, r⟩ := e.left v hv
      obtain ⟨xs, rfl⟩ := ht d hd
      exact looks_reads r
    cases ds with
    | nil => exact SortsAt.data e hal (.inl fun d hd => absurd hd (by simp)) hu
    | cons d0 ds0 =>
      by_cases all : (d0 :: ds0).all filled = true
      · refine SortsAt.data e hal (.inl fun d hd => ?_) hu
        rw [List.all_eq_true] at all
        have q := all d hd
        obtain ⟨xs, rfl⟩ := ht d hd
        cases xs with
        | nil => cases q
        | cons x r => exact ⟨x, r, rfl⟩
      · have kind : ∀ kd : SortKind, (kd = if filled d0 then general' else oneType') → 2 ≤ us.length → ∀ (E : Value → Shared → Prop) {Q : SortKind → Shared → Prop}, Q kd s → wpAny (model prog w) A (keyKind' us.toArray) Q E s := by
          intro kd ek h2 E Q hq
          rw [kat_kind_eq, List.mapM_toArray, map_eq_pure_bind]
          refine wpAny_bind (wpAny_bind (first_things us _ e ht fun fs hf => wpAny_pure ?_))
          have n1 : ¬ (fs.toArray.all fun x => x.isSome) = true := by
            intro z
            rw [List.all_toArray] at z
            refine all ?_
            have : (fs.map (·.isSome)).all id = true := by rw [List.all_map]; exact z
            rw [hf, List.all_map] at this
            exact this
          rw [if_neg n1]
          have hd : (fs.toArray[0]?.bind id).isSome = filled d0 := by
            cases fs with
            | nil => cases hf
            | cons f fr =>
              rw [List.map_cons, List.map_cons] at hf
              have := (List.cons.inj hf).1
              simpa using this
          cases c : filled d0 with
          | true =>
            rw [c] at hd ek
            rw [if_pos hd]
            subst ek
            exact wpAny_pure hq
          | false =>
            rw [c] at hd ek
            rw [if_neg (by rw [hd]; simp)]
            subst ek
            exact one_type (fun z => by rw [z] at h2; exact absurd h2 (by simp)) looks hq
        refine ⟨keys, _, ?_, kind _ rfl⟩
        intro E x y a b Q ha hb hq
        obtain ⟨d, ps, hd, ra, rfl⟩ := dataKind_inv ha
        obtain ⟨d', qs, hd', rb, rfl⟩ := dataKind_inv hb
        have hdd := hal d hd d' hd'
        have hroom := room (d' := d') hd
        obtain ⟨xs, rfl⟩ := ht d hd
        obtain ⟨ys, rfl⟩ := ht d' hd'
        have hq' : Q (dataLt (.tuple xs) (.tuple ys)) s := hq
        cases c : filled d0 with
        | true =>
          rw [if_pos rfl]
          show wpAny (model prog w) A (oneLt' false x y) Q E s
          exact oneLt_alike (fun z => by cases z) ra rb hdd (fun z => by cases z) hroom hq'
        | false =>
          rw [if_neg (by simp), keyLt'_oneType]
          have al : alikeAll xs ys = true := by simpa [alike] using hdd
          cases ra with
          | @tuple p o us1 n _ as1 h1 h2 h3 h4 =>
            cases rb with
            | @tuple p' o' us2 n' _ bs1 k1 k2 k3 k4 =>
              have n1 : us1.size = xs.length := by simpa using ReadsAll.length _ _ _ h4
              have n2 : us2.size = ys.length := by simpa using ReadsAll.length _ _ _ k4
              rw [dataLt_tuple, ← firstLt_toks xs ys al, ← n1, ← n2] at hq'
              rw [oneLt'_eq]
              simp only [if_true]
              refine wpAny_bind (wpAny_cRoomFor (room_here hroom) ?_)
              refine wpAny_bind (wpAny_callSpecialIfBound?_slot (T := "tuple") ⟨_, h1, h2⟩ F.slot_tuple_lt (own_tuple_lt (e := pairEq xs ys) (r := fun j => dataLt (xs.getD j .none) (ys.getD j .none)) ⟨_, h1, h2, _, h3⟩ ⟨_, k1, k2, _, k3⟩ (fun j j1 j2 => ?_) (fun j j1 j2 hj => ?_) ?_))
              · have := eqAt_alikeAll xs ys A.in1 s us1.toList us2.toList _ _ h4 k4 al (room_in hroom) j (by simpa using j1) (by simpa using j2)
                simpa using this
              · have := rcLt_alikeAll xs ys A.in1 s us1.toList us2.toList _ _ h4 k4 al (room_in hroom) j (by simpa using j1) (by simpa using j2) hj
                simpa using this
              · exact wpAny_truthy_bool hq'
/-- sorted(xs) -/
theorem sorted2 {α : Type} {R : Value → α → Prop} {enc : α → PyData} {bs : List α} {us : List Value} {l : Addr} {Q : Value → Shared → Prop} (hl : s.heap.IsList l us.toArray) (e : EachIs R us bs) (er : EachIs (fun v b => ∃ as, Reads s.heap v (enc b) as) us bs) (hal : AllAlike (bs.map enc)) (hk : Sort2 (bs.map enc)) (hL : bs.length ≤ sizeLine)
    (hu : ∀ b, b ∈ bs → A.units + 2 + (enc b).depth < cLine) (h : ∀ out, out.length = bs.length → EachIs R out (bs.mergeSort (dataLe false enc)) → Q (.ref (s.heap.objs.size + 1)) { s with heap := sortedAll s.heap us (List.toArray out) }) :
    wpAny (model prog w) A (call (.builtin "sorted") [.ref l]) Q E s := by
  have er' : EachIs (fun v b => ∃ as, Reads (sortingHeap (copyHeap s.heap us) (s.heap.objs.size + 1) us) v (enc b) as) us bs := er.mono fun _ _ ⟨as, r⟩ => ⟨as, PyProof.Rows.Reads.keeps (fun _ _ => sorting_copy_old) r⟩
  refine sorted_vals hl (sorts2 (s := { s with heap := sortingHeap (copyHeap s.heap us) (s.heap.objs.size + 1) us }) (each_map (R := fun v d => ∃ as, Reads (sortingHeap (copyHeap s.heap us) (s.heap.objs.size + 1) us) v d as) enc er') hal hk (bound_map hu)) (by rw [e.length]; exact hL) ?_
  refine h _ ?_ (sortVals_data false e er' hal)
  rw [sortVals_length false rfl]
  exact e.length
/-- xs.sort() -/
theorem list_sort2 {α : Type} {R : Value → α → Prop} {enc : α → PyData} {bs : List α} {us : List Value} {a : Addr} {n : Nat} {Q : Value → Shared → Prop} (ho : s.heap.get? a = some (seqObj "list" us.toArray n)) (e : EachIs R us bs) (er : EachIs (fun v b => ∃ as, Reads s.heap v (enc b) as ∧ a ∉ as) us bs) (hal : AllAlike (bs.map enc)) (hk : Sort2 (bs.map enc)) (hL : bs.length ≤ sizeLine)
    (hu : ∀ b, b ∈ bs → A.units + 1 + (enc b).depth < cLine) (h : ∀ out, out.length = bs.length → EachIs R out (bs.mergeSort (dataLe false enc)) → Q .none { s with heap := sortedHeap s.heap a us (List.toArray out) }) :
    wpAny (model prog w) A (call (.builtin "list.sort") [.ref a]) Q E s := by
  have er' : EachIs (fun v b => ∃ as, Reads (sortingHeap s.heap a us) v (enc b) as) us bs := each_keepBut (h' := sortingHeap s.heap a us) (fun _ _ hb q => sortingHeap_old hb q) (fun o q => by rw [ho] at q; rw [← Option.some.inj q]) hal er
  refine wpAny_call_entry slot_list_sort ⟨_, ho, rfl⟩ entry_list_sort (list_sort_vals (κ := dataKind (sortingHeap s.heap a us) (bs.map enc)) ho (sorts2 (s := { s with heap := sortingHeap s.heap a us }) (each_map (R := fun v d => ∃ as, Reads (sortingHeap s.heap a us) v d as) enc er') hal hk (bound_map hu)) (by rw [e.length]; exact hL) ⟨.none, rfl, ?_⟩) (args_list_sort _)
  refine h _ ?_ (sortVals_data false e er' hal)
  rw [sortVals_length false rfl]
  exact e.length
end
end KS
/-! RE13c: greatest and least of a list, sorted lists. -/
namespace RE
open PySem PySem.Spec PyProof.Rows L2

def maxL : List Int → Int
  | [] => 0
  | x :: xs => xs.foldl max x
def minL : List Int → Int
  | [] => 0
  | x :: xs => xs.foldl min x
theorem foldl_max : ∀ (xs : List Int) (x : Int), (xs.foldl max x ∈ x :: xs) ∧ ∀ y ∈ x :: xs, y ≤ xs.foldl max x
  | [], x => by simp
  | a :: xs, x => by
    obtain ⟨h1, h2⟩ := foldl_max xs (max x a)
    rw [List.foldl_cons]
    refine ⟨?_, fun y hy => ?_⟩
    · rcases List.mem_cons.mp h1 with h | h
      · rw [h]
        by_cases c : x ≤ a
        · rw [Int.max_eq_right c]; simp
        · rw [Int.max_eq_left (by omega)]; simp
      · exact List.mem_cons_of_mem _ (List.mem_cons_of_mem _ h)
    · have h0 := h2 (max x a) List.mem_cons_self
      rcases List.mem_cons.mp hy with rfl | hy
      · omega
      · rcases List.mem_cons.mp hy with rfl | hy
        · omega
        · exact h2 y (List.mem_cons_of_mem _ hy)
theorem foldl_min : ∀ (xs : List Int) (x : Int), (xs.foldl min x ∈ x :: xs) ∧ ∀ y ∈ x :: xs, xs.foldl min x ≤ y
  | [], x => by simp
  | a :: xs, x => by
    obtain ⟨h1, h2⟩ := foldl_min xs (min x a)
    rw [List.foldl_cons]
    refine ⟨?_, fun y hy => ?_⟩
    · rcases List.mem_cons.mp h1 with h | h
      · rw [h]
        by_cases c : x ≤ a
        · rw [Int.min_eq_left c]; simp
        · rw [Int.min_eq_right (by omega)]; simp
      · exact List.mem_cons_of_mem _ (List.mem_cons_of_mem _ h)
    · have h0 := h2 (min x a) List.mem_cons_self
      rcases List.mem_cons.mp hy with rfl | hy
      · omega
      · rcases List.mem_cons.mp hy with rfl | hy
        · omega
        · exact h2 y (List.mem_cons_of_mem _ hy)
theorem maxL_of {ns : List Int} {m : Int} (h1 : m ∈ ns) (h2 : ∀ j ∈ ns, j ≤ m) : m = maxL ns := by
  cases ns with
  | nil => cases h1
  | cons x xs =>
    obtain ⟨a, b⟩ := foldl_max xs x
    have := h2 _ a
    have := b m h1
    show m = xs.foldl max x
    omega
theorem minL_of {ns : List Int} {m : Int} (h1 : m ∈ ns) (h2 : ∀ j ∈ ns, m ≤ j) : m = minL ns := by
  cases ns with
  | nil => cases h1
  | cons x xs =>
    obtain ⟨a, b⟩ := foldl_min xs x
    have := h2 _ a
    have := b m h1
    show m = xs.foldl min x
    omega
def max1D : D → Option D
  | .lst xs => (intsD xs).bind fun ns => if ns.isEmpty then none else some (.int (maxL ns))
  | _ => none
def min1D : D → Option D
  | .lst xs => (intsD xs).bind fun ns => if ns.isEmpty then none else some (.int (minL ns))
  | _ => none
theorem max1D_ok {mg K} : RcOk mg (rMax K) (op1 max1D) := rc1 fun P H x d v Q fr rx e k => by
  cases x <;> simp only [max1D] at e <;> first | (cases e; done) | skip
  obtain ⟨ns, e1, e2⟩ := Option.bind_eq_some_iff.mp e
  obtain ⟨a, vs, rfl, h1, h2⟩ := rx.lst
  have := h2.ints e1
  subst this
  cases ns with
  | nil => cases e2
  | cons n ns =>
    cases e2
    refine ⟨a, n :: ns, rfl, SqL.of h1, by simp, fun m g1 g2 => ?_⟩
    rw [maxL_of g1 g2]
    exact k _ H (Same.refl H) (by simp only [Rep]) trivial
theorem min1D_ok {mg K} : RcOk mg (rMin K) (op1 min1D) := rc1 fun P H x d v Q fr rx e k => by
  cases x <;> simp only [min1D] at e <;> first | (cases e; done) | skip
  obtain ⟨ns, e1, e2⟩ := Option.bind_eq_some_iff.mp e
  obtain ⟨a, vs, rfl, h1, h2⟩ := rx.lst
  have := h2.ints e1
  subst this
  cases ns with
  | nil => cases e2
  | cons n ns =>
    cases e2
    refine ⟨a, n :: ns, rfl, SqL.of h1, by simp, fun m g1 g2 => ?_⟩
    rw [minL_of g1 g2]
    exact k _ H (Same.refl H) (by simp only [Rep]) trivial

/-! ### sorted -/
def isTup1 : D → Bool
  | .tup (_ :: _) => true
  | _ => false
def notTN : D → Bool
  | .tup _ => false
  | .non => false
  | _ => true
def isTupA : D → Bool
  | .tup _ => true
  | _ => false
def sortOk (xs : List D) : Bool := (xs.all (pd 60) && fits xs.length) && ((xs.all fun d => xs.all fun e => alk d e) && (xs.all isTup1 || xs.all notTN || xs.all isTupA))
noncomputable def sortL (xs : List D) : List D := xs.mergeSort fun d e => PySem.W.dataLe false toP d e
noncomputable def sortedLD : D → Option D
  | .lst xs => if sortOk xs then some (.lst (sortL xs)) else none
  | _ => none
def isStr1 : D → Bool
  | .str _ => true
  | _ => false
noncomputable def sortedD0 : D → Option D
  | .dic false kvs => if (kvs.map (·.1)).all isStr1 && decide (kvs.length < 64) then some (.lst (sortL (kvs.map (·.1)))) else none
  | d => sortedLD d
def rSortD (K : PySem.W.Frag) : List V → Hp → VK → Prop := fun vs H Q => ∃ (a : Addr) (ps : List (D × V)), vs = [V.ref a] ∧ SqL K H a (ps.map (·.2)) ∧ (∀ p ∈ ps, Dp K H p.2 (toP p.1) ∧ (toP p.1).depth ≤ 60) ∧ PySem.W.AllAlike (ps.map fun p => toP p.1) ∧ KS.Sort2 (ps.map fun p => toP p.1) ∧ ps.length ≤ sizeLine ∧
  ∀ p, H p = none → Q (.ref p) (upd H p (.lst ((ps.mergeSort (PySem.W.dataLe false fun p => toP p.1)).map (·.2))))
theorem each_of {X : Cx} {pins : List (Addr × Obj)} {σ : L2.St} {H : Hp} {s : Shared} (I : Inv X pins σ H s) : ∀ {ps : List (D × V)} {us : List Value}, Vals (ps.map (·.2)) us → (∀ p ∈ ps, Dp X.K H p.2 (toP p.1)) →
    PySem.W.EachIs (fun u p => RelV p.2 u) us ps ∧ PySem.W.EachIs (fun u p => ∃ as, Reads s.heap u (toP p.1) as) us ps
  | [], us, r, _ => by cases r; exact ⟨.nil, .nil⟩
  | p :: ps, us, r, h => by
    cases r with
    | cons r1 rs =>
      obtain ⟨h1, h2⟩ := each_of I rs fun q hq => h q (List.mem_cons_of_mem _ hq)
      exact ⟨.cons r1 h1, .cons (Dp.reads I _ _ _ (h p List.mem_cons_self) r1) h2⟩
theorem vals_of_each : ∀ {us : List Value} {ps : List (D × V)}, PySem.W.EachIs (fun u p => RelV p.2 u) us ps → Vals (ps.map (·.2)) us
  | _, _, .nil => .nil
  | _, _, .cons h t => .cons h (vals_of_each t)
theorem cr_sortD {X : Cx} (hu : X.A.units + 128 < cLine) : CallR X (.builtin "sorted") (rSortD X.K) := by
  intro pins s σ H vs us Q I r h
  obtain ⟨a, ps, rfl, hs, hd, hal, hk, hz, q⟩ := h
  obtain ⟨its, rv, hl, _⟩ := I.list hs
  rw [Vals.ref1 r]
  obtain ⟨e1, e2⟩ := each_of I rv fun p hp => (hd p hp).1
  refine KS.sorted2 (enc := fun p : D × V => toP p.1) hl.isList e1 e2 hal hk hz (fun p hp => by have := (hd p hp).2; omega) fun out ho er => ?_
  obtain ⟨ep, he'⟩ := PyProof.Rows.sortedAll_at s.heap its out.toArray
  have hv := vals_of_each er
  refine ⟨.ref _, upd H (s.heap.objs.size + 1) (.lst ((ps.mergeSort (PySem.W.dataLe false fun p => toP p.1)).map (·.2))), I.laid (t' := s.toks) (fun _ _ => PyProof.Rows.sortedAll_old) (Nat.le_succ _) ⟨?_, out, ep, hv, he'⟩, rfl, q _ (I.hok.fresh (Nat.le_succ _))⟩
  rw [List.length_map, List.length_mergeSort]
  exact hz
theorem RepL.pairs {P : Addr → Prop} {H : Hp} : ∀ {ds : List D} {vs : List V}, RepL P H ds vs → ∃ ps : List (D × V), ps.map (·.1) = ds ∧ ps.map (·.2) = vs ∧ ∀ p ∈ ps, Rep P H p.1 p.2
  | [], vs, h => by simp only [RepL] at h; subst h; exact ⟨[], rfl, rfl, by simp⟩
  | d :: ds, vs, h => by
    simp only [RepL] at h
    obtain ⟨v, r, rfl, h1, h2⟩ := h
    obtain ⟨ps, rfl, rfl, h3⟩ := RepL.pairs h2
    refine ⟨(d, v) :: ps, rfl, rfl, fun p hp => ?_⟩
    rcases List.mem_cons.mp hp with rfl | hp
    · exact h1
    · exact h3 p hp
theorem RepL.ofPairs {P : Addr → Prop} {H : Hp} : ∀ {ps : List (D × V)}, (∀ p ∈ ps, Rep P H p.1 p.2) → RepL P H (ps.map (·.1)) (ps.map (·.2))
  | [], _ => by simp [RepL]
  | p :: ps, h => by
    simp only [List.map_cons, RepL]
    exact ⟨_, _, rfl, h p List.mem_cons_self, RepL.ofPairs fun q hq => h q (List.mem_cons_of_mem _ hq)⟩
theorem sortedLD_ok {mg K} : RcOk mg (rSortD K) (op1 sortedLD) := rc1 fun P H x d v Q fr rx e k => by
  cases x <;> simp only [sortedLD] at e <;> first | (cases e; done) | skip
  rename_i xs
  by_cases c : sortOk xs = true
  · rw [if_pos c] at e
    cases e
    unfold sortOk at c
    simp only [Bool.and_eq_true, Bool.or_eq_true] at c
    obtain ⟨⟨c1, c2⟩, c3, c4⟩ := c
    obtain ⟨a, vs, rfl, h1, h2⟩ := rx.lst
    obtain ⟨ps, e1, rfl, h3⟩ := h2.pairs
    have hp : ∀ p ∈ ps, p.1 ∈ xs := fun p hp => e1 ▸ List.mem_map.mpr ⟨p, hp, rfl⟩
    rw [List.all_eq_true] at c1 c3
    refine ⟨a, ps, rfl, SqL.of h1, fun p hq => ⟨(h3 p hq).toB.dp (mg := mg) (c1 _ (hp p hq)), (pd_ok _ _ (c1 _ (hp p hq))).2⟩, ?_, ?_, ?_, fun q hq => ?_⟩
    · intro d hd d' hd'
      obtain ⟨p, hp1, rfl⟩ := List.mem_map.mp hd
      obtain ⟨p', hp2, rfl⟩ := List.mem_map.mp hd'
      have := c3 _ (hp p hp1)
      rw [List.all_eq_true] at this
      exact this _ (hp p' hp2)
    · rcases c4 with (c4 | c4) | c4
      · rw [List.all_eq_true] at c4
        refine .inl (.inl fun d hd => ?_)
        obtain ⟨p, hp1, rfl⟩ := List.mem_map.mp hd
        have := c4 _ (hp p hp1)
        generalize p.1 = z at *
        cases z <;> first | (cases this; done) | skip
        rename_i l
        cases l with
        | nil => cases this
        | cons y l => exact ⟨toP y, toPs l, by simp only [toP, toPs]⟩
      · rw [List.all_eq_true] at c4
        refine .inl (.inr fun d hd => ?_)
        obtain ⟨p, hp1, rfl⟩ := List.mem_map.mp hd
        have h4 := c4 _ (hp p hp1)
        have h5 := c1 _ (hp p hp1)
        generalize p.1 = z at *
        cases z with
        | non => cases h4
        | tup l => cases h4
        | dic _ _ => simp [pd] at h5
        | scr _ => simp [pd] at h5
        | fn _ => simp [pd] at h5
        | bl b => simp [toP]
        | int b => simp [toP]
        | str b => simp [toP]
        | lst b => simp [toP]
      · rw [List.all_eq_true] at c4
        refine .inr fun d hd => ?_
        obtain ⟨p, hp1, rfl⟩ := List.mem_map.mp hd
        have h4 := c4 _ (hp p hp1)
        generalize p.1 = z at *
        cases z <;> first | (cases h4; done) | exact ⟨_, by simp only [toP]; rfl⟩
    · have : ps.length = xs.length := by rw [← e1, List.length_map]
      rw [this]; exact of_decide_eq_true c2
    · refine k _ _ (same_new hq) ?_ (topNew_ref hq)
      have e2 : sortL xs = (ps.mergeSort (PySem.W.dataLe false fun p => toP p.1)).map (·.1) := by
        unfold sortL
        rw [← e1]
        exact (List.map_mergeSort (r := PySem.W.dataLe false fun p : D × V => toP p.1) (s := fun d e => PySem.W.dataLe false toP d e) (f := fun p : D × V => p.1) (l := ps) fun a _ b _ => rfl).symm
      rw [e2]
      refine rep_newL fr hq (RepL.ofPairs fun p hp => h3 p ?_)
      exact (List.mergeSort_perm ps _).mem_iff.mp hp
  · rw [if_neg c] at e; cases e
/-! sorted(d), the keys texts -/
theorem ltv_strs (a b : Str) : ltv (.str a) (.str b) = decide (a.cps.toList < b.cps.toList) := by
  unfold ltv
  simp only [toP]
  exact PySem.W.dataLt_str a b
theorem rising_pw : ∀ (l : List Str) (p : Str), risingS p l = true → (p :: l).Pairwise fun a b => ¬ b.cps.toList < a.cps.toList
  | [], p, _ => by simp
  | x :: r, p, h => by
    have h : (!ltCps x.cps.toList p.cps.toList && risingS x r) = true := h
    rw [Bool.and_eq_true, Bool.not_eq_true', ltCps_eq, decide_eq_false_iff_not] at h
    have ih := rising_pw r x h.2
    refine List.pairwise_cons.mpr ⟨fun b hb => ?_, ih⟩
    rcases List.mem_cons.mp hb with rfl | hb
    · exact h.1
    · have h2 := (List.pairwise_cons.mp ih).1 b hb
      rw [List.not_lt] at h2 ⊢
      exact List.le_trans (List.not_lt.mp h.1) h2
theorem sortedS_L {ys ks : List Str} (hp : ys.Perm ks) (hs : sortedS ys = true) : ys.map D.str = sortL (ks.map D.str) := by
  have t : PySem.W.TotalLe (PySem.W.dataLe false toP) := PySem.W.sortLe_total _ _ _
  have h1 := PySem.W.sort_pairwise t (ks.map D.str)
  have pm : (sortL (ks.map D.str)).Perm (ks.map D.str) := List.mergeSort_perm _ _
  have h2 : (ys.map D.str).Pairwise fun d e => PySem.W.dataLe false toP d e = true := by
    rw [List.pairwise_map]
    have : ys.Pairwise fun a b => ¬ b.cps.toList < a.cps.toList := by
      cases ys with
      | nil => exact List.Pairwise.nil
      | cons y ys => exact rising_pw ys y hs
    refine this.imp fun {a b} z => ?_
    show (!ltv (.str b) (.str a)) = true
    rw [ltv_strs, decide_eq_false z]; rfl
  refine List.Perm.eq_of_pairwise (le := fun d e => PySem.W.dataLe false toP d e = true) (fun a b ha hb q1 q2 => ?_) h2 h1 ((hp.map D.str).trans pm.symm)
  obtain ⟨x, _, rfl⟩ := List.mem_map.mp ha
  obtain ⟨y, _, rfl⟩ := List.mem_map.mp (pm.mem_iff.mp hb)
  have q1 : (!ltv (.str y) (.str x)) = true := q1
  have q2 : (!ltv (.str x) (.str y)) = true := q2
  rw [ltv_strs, Bool.not_eq_true', decide_eq_false_iff_not] at q1 q2
  have e : x.cps.toList = y.cps.toList := List.le_antisymm (List.not_lt.mp q1) (List.not_lt.mp q2)
  congr 1
  cases x
  cases y
  exact congrArg Str.mk (Array.toList_inj.mp e)
def rSortDic : List V → Hp → VK → Prop := fun xs H Q => ∃ (a : Addr) (kvs : List (Key × V)) (ks : List Str), xs = [.ref a] ∧ Rd H a (.dK kvs) ∧ kvs.map (·.1) = ks.map Sum.inr ∧ ks.length < 64 ∧
    ∀ ys p, ys.Perm ks → sortedS ys = true → H p = none → Q (.ref p) (upd H p (.lst (ys.map V.str)))
def rSortD0 (K : PySem.W.Frag) : List V → Hp → VK → Prop := fun xs H Q => rSortD K xs H Q ∨ rSortDic xs H Q
theorem cr_sortD0 {X : Cx} (hc : X.calm = true) (hu : X.A.units + 128 < cLine) : CallR X (.builtin "sorted") (rSortD0 X.K) := (cr_sortD hu).or (call_sortedD hc)
theorem repL_strs {P : Addr → Prop} {H : Hp} : ∀ ks : List Str, RepL P H (ks.map .str) (ks.map V.str)
  | [] => by simp only [List.map_nil, RepL]
  | k :: ks => by
    simp only [List.map_cons, RepL]
    exact ⟨_, _, rfl, by simp only [Rep], repL_strs ks⟩
theorem kv_strs {P : Addr → Prop} {H : Hp} : ∀ {kvs : List (D × D)} {kk : List (Key × V)}, RepKV P H kvs (kk.map fun q => (keyD q.1, q.2)) → (kvs.map (·.1)).all isStr1 = true → ∃ ks : List Str, kk.map (·.1) = ks.map Sum.inr ∧ kvs.map (·.1) = ks.map D.str
  | [], kk, h, _ => by
    unfold RepKV at h
    rw [List.map_eq_nil_iff.mp h]
    exact ⟨[], rfl, rfl⟩
  | (k, d) :: kvs, kk, h, e => by
    unfold RepKV at h
    obtain ⟨v, r, e1, h1, h2⟩ := h
    rw [List.map_cons, List.all_cons, Bool.and_eq_true] at e
    cases kk with
    | nil => cases e1
    | cons q kk =>
      rw [List.map_cons] at e1
      injection e1 with e2 e3
      subst e3
      obtain ⟨ks, g1, g2⟩ := kv_strs h2 e.2
      injection e2 with e4 e5
      obtain ⟨key, w⟩ := q
      cases key with
      | inl i =>
        have e4 : D.int i = k := e4
        have := e.1
        rw [← e4] at this
        cases this
      | inr x =>
        have e4 : D.str x = k := e4
        refine ⟨x :: ks, ?_, ?_⟩
        · rw [List.map_cons, List.map_cons, g1]
        · rw [List.map_cons, List.map_cons, g2, ← e4]
theorem sortedD0_ok {mg K} : RcOk mg (rSortD0 K) (op1 sortedD0) := rc1 fun P H x d v Q fr rx e k => by
  have low : sortedLD x = some d → rSortD0 K [v] H Q := fun e => .inl (sortedLD_ok (mg := mg) (K := K) P H [x] d [v] Q fr ⟨v, [], rfl, rx, rfl⟩ e k)
  cases x with
  | dic t kvs =>
    cases t with
    | true => cases e
    | false =>
      have e : (if (kvs.map (·.1)).all isStr1 && decide (kvs.length < 64) then some (D.lst (sortL (kvs.map (·.1)))) else none) = some d := e
      split at e
      · rename_i c
        cases e
        rw [Bool.and_eq_true, decide_eq_true_eq] at c
        simp only [RepB] at rx
        obtain ⟨a, ps, rfl, ⟨kk, ra, rfl⟩, h2⟩ := rx
        obtain ⟨ks, g1, g2⟩ := kv_strs h2 c.1
        refine .inr ⟨a, kk, ks, rfl, ra, g1, ?_, fun ys p hp hs hn => ?_⟩
        · have := congrArg List.length g2
          rw [List.length_map, List.length_map] at this
          omega
        · refine k _ _ (same_new hn) ?_ (topNew_ref hn)
          rw [g2, ← sortedS_L hp hs]
          exact rep_newL fr hn (repL_strs ys)
      · cases e
  | _ => exact low e
end RE
/-! RE13d: sets of keys (whole numbers, texts) whose tables rise: made of a list, by a comprehension, told in order. -/
namespace KS
open PySem PySem.Spec PyProof.Rows L2

/-- the key that a value bears -/
def vKey : Value → Key
  | .int k _ => .inl k
  | .str x _ => .inr x
  | _ => .inl 0
theorem vKey_of {k : Key} {v : Value} (h : keyIs k v = true) : vKey v = k := by
  rcases keyIs_shape h with ⟨i, t, rfl, rfl⟩ | ⟨x, t, rfl, rfl⟩ <;> rfl
theorem scan_of {k : Key} {v : Value} (h : keyIs k v = true) : v.scannable = true := by
  rcases keyIs_shape h with ⟨i, t, rfl, rfl⟩ | ⟨x, t, rfl, rfl⟩ <;> rfl
/-- is the key among these? -/
def hasK (l : List Key) (k : Key) : Bool := l.any fun j => decide (j = k)
theorem hasK_iff {l : List Key} {k : Key} : hasK l k = true ↔ k ∈ l := by
  unfold hasK
  rw [List.any_eq_true]
  exact ⟨fun ⟨j, h, e⟩ => of_decide_eq_true e ▸ h, fun h => ⟨k, h, decide_eq_true rfl⟩⟩
theorem hasK_app (l : List Key) (k j : Key) : hasK (l ++ [k]) j = (hasK l j || decide (j = k)) := by
  unfold hasK
  rw [List.any_append, List.any_cons, List.any_nil, Bool.or_false]
  congr 1
  exact decide_eq_decide.mpr eq_comm
abbrev eKey (e : Int × Value) : Key := vKey e.2
def Fine (w : World) (e : Int × Value) : Prop := keyIs (eKey e) e.2 = true ∧ e.1 = keyH w (eKey e)
/-- a set's own data: entries, table, members M, how many -/
structure Data (w : World) (es : Array (Int × Value)) (t : SetTable) (M : Key → Bool) (n : Nat) : Prop where
  fine : ∀ e ∈ es.toList, Fine w e
  once : (es.toList.map eKey).Nodup
  mem : ∀ k, M k = true ↔ k ∈ es.toList.map eKey
  small : es.size < scanBound
  fits : t.fits es.size = true
  num : es.size = n
  ris : Ris t.place.toList
  led : w.params.followText "set-order" = true ∨ t.led = true
def KSet (w : World) (h : Heap) (a : Addr) (M : Key → Bool) (n : Nat) : Prop := ∃ o es ep t, h.get? a = some o ∧ o.ExactSet ∧ o.data = .set es ep t ∧ Data w es t M n
section
variable {P : Program} {w : World} {h h' : Heap} {a : Addr} {M : Key → Bool} {n : Nat}
theorem KSet.at (R : KSet w h a M n) (k : ∀ o, h.get? a = some o → h'.get? a = some o) : KSet w h' a M n := by
  obtain ⟨o, es, ep, t, q, r⟩ := R
  exact ⟨o, es, ep, t, k o q, r⟩
theorem KSet.congr {M' : Key → Bool} (R : KSet w h a M n) (e : ∀ k, M' k = M k) : KSet w h a M' n := by
  rw [show M' = M from funext e]; exact R
theorem fine_elems {l : List (Int × Value)} (g : ∀ e ∈ l, Fine w e) : ElemsOf (mixKind P w) l := fun e he => ⟨⟨eKey e, (g e he).1, (g e he).2⟩, scan_of (g e he).1⟩
theorem fine_is {e : Int × Value} (g : Fine w e) (k : Key) : (mixKind P w).is k e.2 = true ↔ eKey e = k := ⟨fun q => vKey_of q, fun q => q ▸ g.1⟩
theorem fine_mem {l : List (Int × Value)} (g : ∀ e ∈ l, Fine w e) (k : Key) : k ∈ l.map eKey ↔ ∃ e ∈ l, (mixKind P w).is k e.2 = true := by
  rw [List.mem_map]
  exact ⟨fun ⟨e, he, q⟩ => ⟨e, he, (fine_is (g e he) k).mpr q⟩, fun ⟨e, he, q⟩ => ⟨e, he, (fine_is (g e he) k).mp q⟩⟩
theorem KSet.setOf (R : KSet w h a M n) : h.SetOf (mixKind P w) a M n := by
  obtain ⟨o, es, ep, t, q, hx, hd, D⟩ := R
  exact ⟨o, es, ep, t, q, hx, hd, fine_elems D.fine, fun k => (D.mem k).trans (fine_mem D.fine k), D.small, D.fits, D.num⟩
end
section
variable {P : Program} {w : World} {A : Around} {E : Value → Shared → Prop} {s : Shared} {a : Addr} {M : Key → Bool} {n : Nat}
theorem put_end {g : Bool → Sem Unit} (hg : ∀ (b : Bool) (z : Shared) (K : Unit → Shared → Prop), K () z → wpAny (model P w) A (g b) K E z)
    {o : Obj} {es : Array (Int × Value)} {ep : Nat} {t : SetTable} (q : s.heap.get? a = some o) (hx : o.ExactSet) (hd : o.data = .set es ep t)
    {es1 : Array (Int × Value)} {t2 : SetTable} {M' : Key → Bool} (D1 : Data w es1 t2 M' es1.size) {was : Bool} {R : Option Bool → Shared → Prop}
    (hR : ∀ h', Heap.SameBut a s.heap h' → KSet w h' a M' es1.size → R (some true) { s with heap := h' }) :
    wpAny (model P w) A (storeSet a es1 t2 >>= fun _ => if (!was && t2.tooFull) = true then (g (relayAll t2 es1 (SetTable.grown es1.size)).2.2 >>= fun _ => storeSet a (relayAll t2 es1 (SetTable.grown es1.size)).1 (relayAll t2 es1 (SetTable.grown es1.size)).2.1 >>= fun _ => pure (some true)) else pure (some true)) R E s := by
  refine wpAny_bind (wpAny_storeSet_of q hd ?_ (fits_of_scanBound D1.small))
  have q1 := store_at (es' := es1) (t' := t2) q hd
  have b1 := Heap.SameBut.update s.heap a (Obj.putSet es1 t2)
  by_cases c : (!was && t2.tooFull) = true
  · rw [if_pos c]
    have p1 := relayAll_perm t2 es1 (SetTable.grown es1.size)
    have p2 := relayAll_fits t2 es1 (SetTable.grown es1.size)
    have p3 := relayAll_ris t2 es1 (SetTable.grown es1.size)
    have p4 := relayAll_led t2 es1 (SetTable.grown es1.size)
    generalize relayAll t2 es1 (SetTable.grown es1.size) = Y at p1 p2 p3 p4 ⊢
    obtain ⟨es2, t3, gv⟩ := Y
    dsimp only at p1 p2 p3 p4 ⊢
    have e2 : es2.size = es1.size := by rw [← Array.length_toList, p1.length_eq, Array.length_toList]
    refine wpAny_bind (hg _ _ _ (wpAny_bind (wpAny_storeSet_of q1 rfl (wpAny_pure (hR _ (b1.trans (Heap.SameBut.update _ a _)) ?_)) (fits_of_scanBound (by rw [e2]; exact D1.small)))))
    exact ⟨_, es2, _, t3, store_at (es' := es2) (t' := t3) q1 rfl, hx, rfl, fun e he => D1.fine e (p1.mem_iff.mp he), (p1.map eKey).nodup_iff.mpr D1.once, fun k => (D1.mem k).trans (p1.map eKey).mem_iff.symm, by rw [e2]; exact D1.small, p2, e2, p3, D1.led.imp id fun z => by rw [p4]; exact z⟩
  · rw [if_neg c]
    exact wpAny_pure (hR _ b1 ⟨_, es1, _, t2, q1, hx, rfl, D1⟩)
theorem put_hashed {k : Key} {v : Value} {Q : Bool → Shared → Prop} (hv : keyIs k v = true) (R : KSet w s.heap a M n) (room : n + 1 < scanBound)
    (hQ : ∀ h', Heap.SameBut a s.heap h' → KSet w h' a (fun j => M j || decide (j = k)) (if M k = true then n else n + 1) → Q (!M k) { s with heap := h' }) :
    wpAny (model P w) A (setAddHashed a v ((mixKind P w).hash k)) Q E s := by
  obtain ⟨o, es, ep, t, q, hx, hd, D⟩ := R
  have hk : (mixKind P w).is k v = true := hv
  have hel : ElemsOf (mixKind P w) es.toList := fine_elems D.fine
  unfold setAddHashed setAddHashedIn
  refine wpAny_holding (wpAny_bind (wpAny_setState_of q hd D.fits ?_))
  dsimp only
  rw [byScan_of (scan_of hv) D.small hel]
  simp only [↓reduceIte]
  unfold setAddByScan
  refine wpAny_bind (wpAny_bind (wpAny_rule (wpAny_bind (wpAny_setScan_of hk q hd D.fits hel ?_))))
  cases hf : List.findIdx? (fun e => (mixKind P w).is k e.2) es.toList with
  | some j =>
    dsimp only
    obtain ⟨hj, pj, _⟩ := List.findIdx?_eq_some_iff_getElem.mp hf
    have hM : M k = true := (D.mem k).mpr ((fine_mem (P := P) D.fine k).mpr ⟨es.toList[j], List.getElem_mem hj, pj⟩)
    have z := hQ s.heap (Heap.SameBut.refl a s.heap) ⟨o, es, ep, t, q, hx, hd, ⟨D.fine, D.once, fun i => by
      rw [Bool.or_eq_true, decide_eq_true_eq, ← D.mem i]
      exact ⟨fun y => y.elim id (fun e => e ▸ hM), .inl⟩, D.small, D.fits, by rw [if_pos hM]; exact D.num, D.ris, D.led⟩⟩
    rw [hM] at z
    exact wpAny_pure (wpAny_pure z)
  | none =>
    dsimp only
    have hn : k ∉ es.toList.map eKey := fun z => by
      obtain ⟨e, he, y⟩ := (fine_mem (P := P) D.fine k).mp z
      have c := List.findIdx?_eq_none_iff.mp hf e he
      rw [y] at c
      cases c
    have hM : M k = false := by
      cases y : M k with
      | false => rfl
      | true => exact absurd ((D.mem k).mp y) hn
    have p1 := layNew_perm t es ((mixKind P w).hash k) v
    have p2 := layNew_fits t es ((mixKind P w).hash k) v
    have p3 := layNew_ris t es ((mixKind P w).hash k) v D.ris
    have p4 := layNew_led t es ((mixKind P w).hash k) v
    generalize layNew t es ((mixKind P w).hash k) v = Y at p1 p2 p3 p4 ⊢
    obtain ⟨es1, t1, was, gv⟩ := Y
    dsimp only at p1 p2 p3 p4 ⊢
    rw [Array.toList_push] at p1
    have pc : es1.toList.Perm (((mixKind P w).hash k, v) :: es.toList) := p1.trans (List.perm_append_singleton _ _)
    have pk : (es1.toList.map eKey).Perm (k :: es.toList.map eKey) := by
      have z := pc.map eKey
      rw [List.map_cons, show eKey ((mixKind P w).hash k, v) = k from vKey_of hv] at z
      exact z
    have e1 : es1.size = n + 1 := by rw [← Array.length_toList, pc.length_eq, List.length_cons, Array.length_toList, D.num]
    have D1 : ∀ t2 : SetTable, t2.fits es1.size = true → Ris t2.place.toList → (w.params.followText "set-order" = true ∨ t2.led = true) → Data w es1 t2 (fun j => M j || decide (j = k)) es1.size := fun t2 f2 r2 l2 =>
      ⟨fun e he => by
        rcases List.mem_cons.mp (pc.mem_iff.mp he) with z | z
        · rw [z]
          unfold Fine
          rw [show eKey ((mixKind P w).hash k, v) = k from vKey_of hv]
          exact ⟨hv, rfl⟩
        · exact D.fine e z, pk.nodup_iff.mpr (List.nodup_cons.mpr ⟨hn, D.once⟩), fun i => by
        rw [Bool.or_eq_true, decide_eq_true_eq, D.mem i, pk.mem_iff, List.mem_cons]
        exact Or.comm, by rw [e1]; exact room, f2, rfl, r2, l2⟩
    have hl1 : w.params.followText "set-order" = true ∨ t1.led = true := D.led.imp id fun z => by rw [p4]; exact z
    have fin : ∀ h', Heap.SameBut a s.heap h' → KSet w h' a (fun j => M j || decide (j = k)) es1.size → Q true { s with heap := h' } := fun h' sb r => by
      have z := hQ h' sb
      rw [hM] at z
      rw [e1] at r
      exact z r
    have gw : ∀ (b : Bool) {z : Shared} {K : Unit → Shared → Prop}, K () z → wpAny (model P w) A (match b with | true => rule "set.scan.the-table-gave-way" | false => pure ()) K E z :=
      fun b z K y => by cases b <;> first | exact wpAny_pure y | exact wpAny_rule y
    refine wpAny_bind (gw _ ?_)
    split
    · refine wpAny_bind ?_
      rw [hashByValue_scannable 8 (scan_of hv)]
      refine wpAny_pure ?_
      refine put_end (fun b z K y => by cases b <;> first | exact wpAny_pure y | exact wpAny_rule y) q hx hd (D1 _ ?_ ?_ ?_) ?_
      · first | (split <;> first | exact p2 | exact SetTable.fits_plain_off p2) | exact p2
      · first | (split <;> exact p3) | exact p3
      · first | (split <;> exact hl1) | exact hl1
      · intro h' sb r; dsimp only; exact wpAny_pure (fin h' sb r)
    · refine wpAny_bind (wpAny_pure ?_)
      simp only [↓reduceIte]
      refine put_end (fun b z K y => by cases b <;> first | exact wpAny_pure y | exact wpAny_rule y) q hx hd (D1 _ p2 p3 hl1) ?_
      intro h' sb r; dsimp only; exact wpAny_pure (fin h' sb r)
theorem put_key {k : Key} {v : Value} {Q : Value → Shared → Prop} (hv : keyIs k v = true) (R : KSet w s.heap a M n) (room : n + 1 < scanBound)
    (hQ : ∀ h', Heap.SameBut a s.heap h' → KSet w h' a (fun j => M j || decide (j = k)) (if M k = true then n else n + 1) → Q .none { s with heap := h', toks := s.toks + 1 }) :
    wpAny (model P w) A (call (.builtin "set.add") [.ref a, v]) Q E s := by
  have hS : s.heap.SetOf (mixKind P w) a M n := R.setOf
  refine wpAny_call_entry F.slot_set_add hS.typeIs F.entry_set_add ?_ (F.args_set_add_2 _ _)
  unfold Builtin.«set.add» Builtin.Frozenset.oneOther
  simp only [List.isEmpty_nil, bind_assoc]
  unfold Builtin.Frozenset.addrOf setAdd
  refine wpAny_bind (wpAny_pure ?_)
  try dsimp only
  refine wpAny_bind (wpAny_pure ?_)
  try dsimp only
  refine wpAny_bind (wpAny_holding (wpAny_bind ((mixKind P w).pyHash (k := k) hv (put_hashed (s := { s with toks := s.toks + 1 }) hv R room fun h' sb r => ?_))))
  exact (show wpAny _ _ (ret Value.none) _ _ _ from wpAny_pure ⟨_, rfl, hQ h' sb r⟩)
/-- a fresh set -/
abbrev freshO (w : World) : Obj := { cls := .type "set", dict := none, data := .set #[] 0 (.fresh 0 0 (!w.params.followText "set-order")) }
theorem fresh_at {h : Heap} {a : Addr} (q : h.get? a = some (freshO w)) : KSet w h a (fun _ => false) 0 :=
  ⟨_, #[], 0, _, q, ⟨rfl, rfl, rfl⟩, rfl, (fun e he => by simp at he), (by simp), (fun k => by simp), (by decide), (by rfl), rfl, List.Pairwise.nil, by
    show _ ∨ (!w.params.followText "set-order") = true
    cases w.params.followText "set-order"
    · exact .inr rfl
    · exact .inl rfl⟩
end
section
variable {P : Program} {w : World} {A : Around} {E : Value → Shared → Prop} {s : Shared}
/-- the loop that fills a set -/
theorem fill_keys {I : Addr} {fp wr : List Addr} {G : Array GenState → Array GenState → Prop} {n : Nat} {Pv : Nat → Value → Prop} {St : Nat → Shared → Prop} {R : Result → Shared → Prop}
    (W : WalksS P w A.in1 I fp wr G n Pv St) (S : Addr) (nS : S ∉ fp) (ks : List Key) (hn : n = ks.length) (hb : ks.length + 1 < scanBound) (hv : ∀ i v, Pv i v → ∃ k, ks[i]? = some k ∧ keyIs k v = true) :
    ∀ (m i : Nat) (s : Shared), n - i = m → i ≤ n → St i s → (∃ c, c ≤ i ∧ KSet w s.heap S (hasK (ks.take i)) c) →
      (∀ s' c, Moved (S :: wr) G s s' → c ≤ n → KSet w s'.heap S (hasK ks) c → R (.ok (.ret .none)) s') →
      codeAny (model P w) A (.builtin "set.update.loop" ⟨[.ref S, .ref I], []⟩) R s := by
  have nw : S ∉ wr := fun z => nS (W.sub _ z)
  have up : ∀ b ∈ wr, b ∈ S :: wr := fun b z => List.mem_cons_of_mem _ z
  intro m
  induction m with
  | zero =>
    intro i s hm hi st ⟨c, hc, hS⟩ hR
    obtain rfl : i = n := by omega
    refine codeAny_builtin F.entry_set_update_loop ?_
    rw [Around.under_plainId F.plain_set_update_loop _]
    show wpAny _ A.in1 (pyNext (.ref I) >>= _) _ _ s
    refine wpAny_bind (W.done s _ _ st fun s' mv => ?_)
    rw [List.take_of_length_le (by omega)] at hS
    exact (show wpAny _ A.in1 (ret Value.none) _ _ s' from wpAny_pure (hR s' c (mv.mono up) hc (hS.at fun o e => mv.heap S o nw e)))
  | succ m ih =>
    intro i s hm hi st ⟨c, hc, hS⟩ hR
    have lt : i < n := by omega
    refine codeAny_builtin F.entry_set_update_loop ?_
    rw [Around.under_plainId F.plain_set_update_loop _]
    show wpAny _ A.in1 (pyNext (.ref I) >>= _) _ _ s
    refine wpAny_bind (W.item i s _ _ lt st fun v s' hP st' mv => ?_)
    obtain ⟨k, hk, kv⟩ := hv i v hP
    have hS' : KSet w s'.heap S (hasK (ks.take i)) c := hS.at fun o e => mv.heap S o nw e
    show wpAny _ A.in1 (holding [v] (setAdd S v) >>= _) _ _ s'
    refine wpAny_bind (wpAny_holding ?_)
    unfold setAdd
    refine wpAny_holding (wpAny_bind ((mixKind P w).pyHash (k := k) kv ?_))
    refine put_hashed (s := { s' with toks := s'.toks + 1 }) kv hS' (by omega) fun h' sb hS2 => ?_
    have hS3 : KSet w h' S (hasK (ks.take (i + 1))) (if hasK (ks.take i) k = true then c else c + 1) := hS2.congr fun j => by
      rw [List.take_add_one, hk]
      exact hasK_app _ k j
    have c3 : (if hasK (ks.take i) k = true then c else c + 1) ≤ i + 1 := by split <;> omega
    refine wpAny_pure ⟨plainId_quiet F.plain_set_update_loop _, ih (i + 1) _ (by omega) lt (W.frame _ s' _ _ st' (Nat.le_succ _) fun b hb o e => ?_) ⟨_, c3, hS3⟩ fun s'' c2 mv'' hc'' hS'' => ?_⟩
    · rw [sb.2 b (fun z : b = S => nS (z ▸ hb))]; exact e
    · refine hR s'' c2 (Moved.trans W.gtrans ((mv.mono up).then_heap (Nat.le_succ _) fun b o hb e => ?_) mv'') hc'' hS''
      rw [sb.2 b (fun z : b = S => hb (z ▸ List.mem_cons_self))]; exact e
theorem new_at (h : Heap) : (h.push (freshO w)).get? h.objs.size = some (freshO w) := Heap.get?_push_size _ rfl
set_option maxRecDepth 100000 in
set_option maxHeartbeats 3200000 in
/-- set(xs), xs a list of keys -/
theorem set_of_list {l : Addr} {items : Array Value} (ks : List Key) {Q : Value → Shared → Prop} (hh : A.handled = none) (hl : s.heap.IsList l items) (hlen : items.size = ks.length) (hit : ∀ (i : Nat) (v : Value), items[i]? = some v → ∃ k, ks[i]? = some k ∧ keyIs k v = true) (hb : ks.length + 1 < scanBound)
    (h : ∀ (h' : Heap) (tk c : Nat), KSet w h' s.heap.objs.size (hasK ks) c → c ≤ ks.length → (∀ b o, s.heap.get? b = some o → h'.get? b = some o) → Q (.ref s.heap.objs.size) { s with heap := h', toks := tk }) :
    wpAny (model P w) A (call (.type "set") [.ref l]) Q E s := by
  obtain ⟨c, tl, mro⟩ := F.called_set.mro
  have made := F.called_set.made
  have sub := F.called_set.sub
  refine wpAny_call (codeAny_of_tree ?_)
  show wpAny _ _ (callAny (.type "set") _) _ _ _
  refine wpAny_pure ⟨Code.quiet_builtin _ (by decide +kernel), codeAny_builtin F.entry_type_call ?_⟩
  rw [Around.under_plain (weight_type_call_type "set" [.ref l] []) rfl]
  have g1 := F.called_set.notType
  have g2 := F.called_set.canCreate
  have g3 := F.typeCall_set_1 (.ref l)
  repeat (any_goals (first | assumption | wp_step))
  refine codeAny_mono (code_set_led1 (.ref l) (E := E) (Q₁ := fun obj z => obj = .ref s.heap.objs.size ∧ z = { s with heap := s.heap.push (freshO w) }) ⟨rfl, rfl⟩) fun r z hr => ?_
  cases r with
  | error e => exact hr
  | ok fl =>
    cases fl with
    | ret obj =>
      obtain ⟨rfl, rfl⟩ := hr
      have hS := new_at (w := w) s.heap
      have hT : Shared.TypeIs { s with heap := s.heap.push (freshO w) } (.ref s.heap.objs.size) "set" := ⟨_, hS, rfl⟩
      have li := F.called_set.init.lookup
      have bi := F.called_set.init.bind (.ref s.heap.objs.size)
      repeat (any_goals (first | assumption | wp_step))
      refine codeAny_mono (codeAny_call_builtin (R := wants (fun r z => r = .none ∧ ∃ h' tk c, z = { s with heap := h', toks := tk } ∧ KSet w h' s.heap.objs.size (hasK ks) c ∧ c ≤ ks.length ∧ (∀ b o, s.heap.get? b = some o → h'.get? b = some o)) E) F.called_set.init.plain F.entry_set_init (check_set_init_1 hT ?_)) fun r2 z2 hr2 => ?_
      · obtain ⟨ol, hol, hcl, nl, hdl⟩ := hl
        obtain ⟨ocls, odict, odata, oslots⟩ := ol
        simp only at hcl hdl
        subst hcl; subst hdl
        have hol' : (s.heap.push (freshO w)).get? l = some { cls := .type "list", dict := odict, data := .seq items nl, slots := oslots } := Heap.get?_push_of_some _ hol
        have s1 := F.sub_list_set
        have s2 := F.sub_list_frozenset
        have ne : (Value.type "list" == Value.type "dict") = false := by decide
        have l1 : (s.heap.push (freshO w)).IsList l items := ⟨_, hol', rfl, nl, rfl⟩
        unfold Builtin.«set.__init__» noKeywords Builtin.Frozenset.updateFrom
        generalize hPI : pyIter = PI
        wp_walk
        subst hPI
        refine wpAny_pyIter_list l1 (wpAny_bind (wpAny_runValue ?_))
        have lS : l < s.heap.objs.size := Heap.lt_size hol
        have h3 : A.in1.in1.in1.handled = none := by simp [hh]
        have sz : (s.heap.push (freshO w)).objs.size = s.heap.objs.size + 1 := Heap.size_push ..
        have nI : l ≠ (s.heap.push (freshO w)).objs.size := by rw [sz]; exact Nat.ne_of_lt (Nat.lt_succ_of_lt lS)
        have nf : s.heap.objs.size ∉ [(s.heap.push (freshO w)).objs.size, l] := by
          rw [sz]; simp only [List.mem_cons, List.mem_singleton, List.not_mem_nil, or_false, not_or]
          exact ⟨Nat.ne_of_lt (Nat.lt_succ_self _), Nat.ne_of_gt lS⟩
        refine fill_keys ((Walks.list h3 _ l nI items).toS) s.heap.objs.size nf ks hlen hb hit (items.size - 0) 0 _ (by omega) (Nat.zero_le _) ⟨⟨_, Heap.get?_push_size _ rfl, rfl, rfl⟩, (l1.push _)⟩ ?zero ?rest
        case zero => exact ⟨0, Nat.le_refl 0, (fresh_at (Heap.get?_push_of_some _ hS)).congr fun k => rfl⟩
        case rest =>
          intro s' c' mv hc' hS'
          obtain ⟨h', gg, dd, tk', os'⟩ := s'
          obtain rfl : gg = s.gens := mv.gens
          obtain rfl : dd = s.drawn := mv.drawn
          obtain rfl : os' = s.os := mv.os
          show wpAny _ _ _ _ _ _
          refine wpAny_pure ?_
          show wpAny _ _ (ret Value.none) _ _ _
          refine wpAny_pure ⟨rfl, h', tk', c', rfl, hS', by omega, fun b o e => ?_⟩
          have bl : b < s.heap.objs.size := Heap.lt_size e
          refine mv.heap b o (fun z => ?_) (Heap.get?_push_of_some _ (Heap.get?_push_of_some _ e))
          rcases List.mem_cons.mp z with z | z
          · exact absurd bl (by rw [z]; exact Nat.lt_irrefl _)
          · have z := List.mem_singleton.mp z
            have z : b = (s.heap.push (freshO w)).objs.size := z
            rw [sz] at z
            exact absurd bl (by rw [z]; exact Nat.not_lt_of_le (Nat.le_succ _))
      · cases r2 with
        | error e => exact hr2
        | ok fl2 =>
          cases fl2 with
          | ret r =>
            obtain ⟨rfl, h', tk, c', rfl, hS', hc', hk'⟩ := hr2
            repeat (any_goals (first | assumption | wp_step))
            exact h _ _ _ hS' hc' hk'
          | _ => exact hr2.elim
    | _ => exact hr.elim
end
section
variable {P : Program} {w : World} {A : Around} {E : Value → Shared → Prop} {s : Shared} {a : Addr} {M : Key → Bool} {n : Nat}
def kP : Key → PyData
  | .inl i => .int i
  | .inr x => .str x
/-- all numbers, or all texts -/
def OneKind (ks : List Key) : Prop := (∀ k ∈ ks, ∃ i, k = .inl i) ∨ ∀ k ∈ ks, ∃ x, k = .inr x
theorem alike_keys {ks : List Key} (h : OneKind ks) : PySem.W.AllAlike (ks.map kP) ∧ PySem.W.Sortable (ks.map kP) := by
  constructor
  · intro d hd d' hd'
    obtain ⟨k, hk, rfl⟩ := List.mem_map.mp hd
    obtain ⟨k', hk', rfl⟩ := List.mem_map.mp hd'
    rcases h with h | h
    · obtain ⟨i, rfl⟩ := h k hk
      obtain ⟨j, rfl⟩ := h k' hk'
      simp [kP, PySem.W.alike]
    · obtain ⟨i, rfl⟩ := h k hk
      obtain ⟨j, rfl⟩ := h k' hk'
      simp [kP, PySem.W.alike]
  · refine .inr fun d hd => ?_
    obtain ⟨k, hk, rfl⟩ := List.mem_map.mp hd
    cases k <;> exact ⟨fun z => (by cases z), fun xs z => (by cases z)⟩
theorem each_keys {h : Heap} : ∀ {l : List Value}, (∀ v ∈ l, keyIs (vKey v) v = true) → PySem.W.EachIs (fun v k => keyIs k v = true) l (l.map vKey) ∧ PySem.W.EachIs (fun v k => ∃ as, Reads h v (kP k) as ∧ as = []) l (l.map vKey)
  | [], _ => ⟨.nil, .nil⟩
  | v :: l, hv => by
    obtain ⟨h1, h2⟩ := each_keys (h := h) fun u hu => hv u (List.mem_cons_of_mem _ hu)
    have h0 := hv v List.mem_cons_self
    refine ⟨.cons h0 h1, .cons ?_ h2⟩
    rcases keyIs_shape h0 with ⟨i, t, e, rfl⟩ | ⟨x, t, e, rfl⟩
    · exact ⟨[], .int i t, rfl⟩
    · exact ⟨[], .str x t, rfl⟩
/-- sorted(set) -/
theorem sorted_kset {Q : Value → Shared → Prop} (R : KSet w s.heap a M n) (hh : A.handled = none) (hn : n ≤ 1000) (hu : A.units + 8 < cLine) (hk : ∀ ks : List Key, (∀ k ∈ ks, M k = true) → OneKind ks)
    (hQ : ∀ s' p (out : Array Value) (c : Nat) (ks : List Key), (∀ b o, s.heap.get? b = some o → s'.heap.get? b = some o) → s'.gens = s.gens → s'.os = s.os → s.heap.objs.size ≤ p →
      s'.heap.get? p = some (seqObj "list" out c) → PySem.W.EachIs (fun v k => keyIs k v = true) out.toList (ks.mergeSort (PySem.W.dataLe false kP)) → ks.Nodup → (∀ k, k ∈ ks ↔ M k = true) → ks.length = n → Q (.ref p) s') :
    wpAny (model P w) A (call (.builtin "sorted") [.ref a]) Q E s := by
  obtain ⟨o, es, ep, t, q, hx, hd, D⟩ := R
  refine Calls.call_function_entry kind_sorted plain_sorted entry_sorted (args_sorted1 _) ?_
  unfold Builtin.«sorted»
  refine wpAny_bind (m := checkCount "sorted" 1 1 _) (wpAny_pure ?_)
  refine wpAny_bind (collect_set (A := A.in1) hh ⟨o, q, hx.1, hd⟩ D.fits D.small D.ris D.led fun s1 vs k1 hz g1 o1 pm => ?_)
  have vl : vs.length = n := by rw [pm.length_eq, List.length_map, Array.length_toList]; exact D.num
  have pk : (vs.map vKey).Perm (es.toList.map eKey) := by
    have z := pm.map vKey
    rw [List.map_map] at z
    exact z
  have hv : ∀ v ∈ vs, keyIs (vKey v) v = true := fun v hv => by
    obtain ⟨e, he, rfl⟩ := List.mem_map.mp (pm.mem_iff.mp hv)
    exact (D.fine e he).1
  have hm : ∀ k, k ∈ vs.map vKey ↔ M k = true := fun k => by rw [pk.mem_iff, ← D.mem k]
  refine wpAny_bind (wpAny_newList ?_ (by rw [vl, sizeLine_eq]; omega))
  have hL : (s1.heap.push (seqObj "list" vs.toArray 0)).get? s1.heap.objs.size = some (seqObj "list" vs.toArray 0) := Heap.get?_push_size _ rfl
  obtain ⟨al, so⟩ := alike_keys (hk (vs.map vKey) fun k h => (hm k).mp h)
  obtain ⟨e1, e2⟩ := each_keys (h := s1.heap.push (seqObj "list" vs.toArray 0)) hv
  refine wpAny_bind (wpAny_holding (PySem.W.list_sort_data (s := { s1 with heap := s1.heap.push (seqObj "list" vs.toArray 0) }) (enc := kP) hL e1 (e2.mono fun v k h => ?_) al so ?_ ?_ fun out ho eo => ?_))
  · obtain ⟨as, h1, rfl⟩ := h
    exact ⟨[], h1, by simp⟩
  · rw [List.length_map, vl, sizeLine_eq]; omega
  · intro k _
    have : (kP k).depth = 0 := by cases k <;> rfl
    rw [this]
    first
      | exact (show A.units + 1 + 0 < cLine by omega)
      | exact (show A.units + 1 + 1 + 0 < cLine by omega)
      | exact (show A.units + 1 + 1 + 1 + 0 < cLine by omega)
      | exact (show A.units + 1 + 1 + 1 + 1 + 0 < cLine by omega)
  · obtain ⟨c, hc⟩ := sortedHeap_at (vs := vs) (out := List.toArray out) hL
    refine wpAny_pure ⟨_, rfl, hQ _ s1.heap.objs.size (List.toArray out) c (vs.map vKey) (fun b u e => ?_) g1 o1 hz hc eo (pk.nodup_iff.mpr D.once) hm (by rw [List.length_map]; exact vl)⟩
    have z := k1 b u e
    have lt := Heap.lt_size z
    show (sortedHeap (s1.heap.push (seqObj "list" vs.toArray 0)) s1.heap.objs.size vs (List.toArray out)).get? b = some u
    rw [sortedHeap_old (Nat.ne_of_lt lt) (by rw [size_push']; exact Nat.lt_succ_of_lt lt)]
    exact Heap.get?_push_of_some _ z
end
section
/-- the set of keys at a, as a tracked thing -/
def KO (w : World) (a : Addr) (M : Key → Bool) (n : Nat) : HO := .ext fun h => KSet w h a M n
theorem ko_new {w : World} {P : Program} {H : Hp} {h : Heap} {a : Addr} {M : Key → Bool} {n : Nat} (R : KSet w h a M n) : ObjOk P w H h a (KO w a M n) := by
  have ⟨o, _, _, _, ho, _⟩ := R
  exact ⟨R, ⟨o, ho⟩, fun h1 h2 p k => KSet.at p k⟩
variable {X : Cx}
theorem ko_get {pins : List (Addr × Obj)} {σ : L2.St} {H : Hp} {s : Shared} {a : Addr} {M : Key → Bool} {n : Nat} (I : Inv X pins σ H s) (ha : H a = some (KO X.w a M n)) : KSet X.w s.heap a M n := (I.hok a _ ha).1
theorem ko_add {pins : List (Addr × Obj)} {σ : L2.St} {H : Hp} {s : Shared} {E : Value → Shared → Prop} {D : Addr} {M : Key → Bool} {n : Nat} {k : Key} {v : Value} {Q : Value → Shared → Prop} (I : Inv X pins σ H s) (hv : keyIs k v = true) (hD : H D = some (KO X.w D M n)) (room : n + 1 < scanBound)
    (h : ∀ s', Inv X pins σ (upd H D (KO X.w D (fun j => M j || decide (j = k)) (if M k = true then n else n + 1))) s' → Q .none s') : wpAny (model X.prog X.w) X.A (call (.builtin "set.add") [.ref D, v]) Q E s := by
  refine put_key hv (ko_get I hD) room fun h' sb new => ?_
  have he : ∃ u, h'.get? D = some u := by
    have ⟨o, _, _, _, ho, _⟩ := new
    exact ⟨o, ho⟩
  exact h _ (I.write (e := D) (t' := s.toks + 1) (by rw [hD]; trivial) (.inl rfl) (fun b u hb hu => (sb.2 b hb).trans hu) he (ko_new new))
theorem vals_keys : ∀ {ks : List Key} {us : List Value}, Vals (ks.map kV) us → us.length = ks.length ∧ ∀ (i : Nat) (v : Value), us[i]? = some v → ∃ k, ks[i]? = some k ∧ keyIs k v = true
  | [], _, .nil => ⟨rfl, fun i v h => by simp at h⟩
  | k :: ks, _, .cons r t => by
    obtain ⟨h1, h2⟩ := vals_keys t
    refine ⟨by rw [List.length_cons, List.length_cons, h1], fun i v h => ?_⟩
    cases i with
    | zero =>
      rw [List.getElem?_cons_zero] at h ⊢
      cases h
      refine ⟨k, rfl, ?_⟩
      cases k with
      | inl i =>
        obtain ⟨u, rfl⟩ := r
        exact keyIs_int i u
      | inr x =>
        obtain ⟨u, rfl⟩ := r
        exact keyIs_str x u
    | succ i =>
      rw [List.getElem?_cons_succ] at h ⊢
      exact h2 i v h
/-- set(xs) by values -/
def rSetK (K : PySem.W.Frag) (w : World) : List V → Hp → VK → Prop := fun xs H Q => ∃ (l : Addr) (ks : List Key), xs = [V.ref l] ∧ SqL K H l (ks.map kV) ∧ ks.length ≤ 900 ∧
  ∀ a c, H a = none → c ≤ ks.length → Q (.ref a) (upd H a (KO w a (hasK ks) c))
theorem cr_setK (hc : X.calm = true) : CallR X (.type "set") (rSetK X.K X.w) := by
  intro pins s σ H xs us Q I r h
  obtain ⟨l, ks, rfl, hl, hf, q⟩ := h
  rw [Vals.ref1 r]
  obtain ⟨its, rv, pl, hz⟩ := I.list hl
  obtain ⟨v1, v2⟩ := vals_keys rv
  have hn : H s.heap.objs.size = none := I.hok.fresh (Nat.le_refl _)
  refine set_of_list (P := X.prog) (w := X.w) ks (I.ok.hd hc) pl.isList (by rw [List.size_toArray]; exact v1) (fun i v hi => v2 i v (by simpa using hi)) (by unfold scanBound; omega) fun h' tk c R hc' k => ?_
  exact ⟨.ref s.heap.objs.size, upd H s.heap.objs.size (KO X.w s.heap.objs.size (hasK ks) c), I.laid (t' := tk) k (Nat.le_refl _) (ko_new R), rfl, q _ c hn hc'⟩
/-- sorted(set) by values -/
def rSortK (w : World) : List V → Hp → VK → Prop := fun vs H Q => ∃ (a : Addr) (M : Key → Bool) (n : Nat), vs = [V.ref a] ∧ H a = some (KO w a M n) ∧ n ≤ 1000 ∧ (∀ ks : List Key, (∀ k ∈ ks, M k = true) → OneKind ks) ∧
  ∀ (ks : List Key) (p : Addr), ks.Nodup → (∀ k, k ∈ ks ↔ M k = true) → H p = none → Q (.ref p) (upd H p (.lst ((ks.mergeSort (PySem.W.dataLe false kP)).map kV)))
theorem vals_each : ∀ {us : List Value} {ks : List Key}, PySem.W.EachIs (fun v k => keyIs k v = true) us ks → Vals (ks.map kV) us
  | _, _, .nil => .nil
  | _, _, .cons (b := k) h t => by
    refine .cons ?_ (vals_each t)
    rcases keyIs_shape h with ⟨i, u, rfl, rfl⟩ | ⟨x, u, rfl, rfl⟩
    · exact ⟨u, rfl⟩
    · exact ⟨u, rfl⟩
theorem cr_sortK (hc : X.calm = true) (hu : X.A.units + 128 < cLine) : CallR X (.builtin "sorted") (rSortK X.w) := by
  intro pins s σ H vs us Q I r h
  obtain ⟨a, M, n, rfl, ha, hn, hk, q⟩ := h
  rw [Vals.ref1 r]
  refine sorted_kset (ko_get I ha) (I.ok.hd hc) hn (by omega) hk fun s' p out c ks k g o hp hg hout nd mem len => ?_
  have hv := vals_each hout
  have hl : ((ks.mergeSort (PySem.W.dataLe false kP)).map kV).length ≤ sizeLine := by rw [List.length_map, List.length_mergeSort, len, sizeLine_eq]; omega
  have hno : H p = none := I.hok.fresh hp
  have J : Inv X pins σ (upd H p (.lst ((ks.mergeSort (PySem.W.dataLe false kP)).map kV))) { s with heap := s'.heap, gens := s'.gens, drawn := s'.drawn, toks := s'.toks } :=
    I.call (ch := []) (Un.laid k hp hno) (I.hok.laid k hp ⟨hl, out.toList, c, hv, hg⟩) (by rw [g]; exact I.bare) (fun _ z => nomatch z)
  have e : s' = { s with heap := s'.heap, gens := s'.gens, drawn := s'.drawn, toks := s'.toks } := by
    cases s'
    cases s
    cases o
    rfl
  rw [e]
  exact ⟨.ref p, _, J, rfl, q ks p nd mem hno⟩
end
end KS
/-! RE13e: sets of keys by a comprehension; sorted(set(..)), sorted({..}). -/
namespace KS
open PySem PySem.Spec PyProof.Rows L2 PpSet
section
variable {X : Cx}
/-- {elt for target in iter if ..}, elt a key -/
def tSk (w : World) (wi : TI) (g : TG) (tt : TT) (te : TE) (vs : List Nat) : TE := fun σ H Q => wi σ H fun J H1 => ∀ D, H1 D = none → ∃ W : Nat → Nat → Hp → Prop, (∃ m, W 0 m (upd H1 D (KO w D (fun _ => false) 0))) ∧ ∀ i m H, W i m H →
  (J.stop i H ∧ Q (.ref D) H) ∨ (J.go i H ∧ ∃ Nx : Hp → Prop, (∀ H', Nx H' → ∃ m', m' < m ∧ W (i + 1) m' H') ∧ ∀ x H', J.yld i H x H' → g x (wipe σ vs) H' fun σ2 H2 => wipe σ2 vs = wipe σ vs ∧ tt σ2 H2 fun b H3 =>
    if b = true then te σ2 H3 fun y H4 => ∃ (k : Key) (M : Key → Bool) (n : Nat), y = kV k ∧ H4 D = some (KO w D M n) ∧ n + 1 < scanBound ∧ Nx (upd H4 D (KO w D (fun j => M j || decide (j = k)) (if M k = true then n else n + 1))) else Nx H3)
theorem sk_core {pins : List (Addr × Obj)} {s : Shared} {σ : L2.St} {H : Hp} {Q : VK} {elt tg iter : Expr} {ifs : List Expr} {scope : Scope} {own : List (PySem.Str × Nat)} {p1 p2 : Pos} {wi : TI} {g : TG} {tt : TT} {te : TE} {use : Option (Value → Sem Unit)} {Qf : Value → Shared → Prop}
    (hc : X.calm = true) (hN : X.N.Nodup) (I : Inv X pins σ H s) (hi : PI X tg iter wi) (ok : BlkOk X.N X.env.scope scope own)
    (hg : ∀ (s : Shared) (H : Hp) (C : Addr) (cl : List (PySem.Str × Addr)) (fp : List Addr), PG (X.blk s H scope (compEnvC scope cl C X.env) fp) tg g)
    (ht : ∀ (s : Shared) (H : Hp) (C : Addr) (cl : List (PySem.Str × Addr)) (fp : List Addr), PTs (X.blk s H scope (compEnvC scope cl C X.env) fp) ifs tt)
    (he : ∀ (s : Shared) (H : Hp) (C : Addr) (cl : List (PySem.Str × Addr)) (fp : List Addr), PE (X.blk s H scope (compEnvC scope cl C X.env) fp) elt te)
    (hs : ∀ x, foldedSetIterable iter X.env x = pure x) (h : tSk X.w wi g tt te (own.map (·.2)) σ H Q)
    (hE : ∀ D C z m H', Inv X pins σ H' z → Q (.ref D) H' → z.heap.Ns C m → FpOk X pins H' C → compPost (model X.prog X.w) X.A X.xe use Qf (.ref D) C (.ok .next) z) :
    wpAny (model X.prog X.w) X.A (comprehension (.SetComp elt [⟨tg, iter, ifs, 0⟩] scope p1) scope X.env p2 (newSet (.type "set")) false (eval iter X.env) use) Qf X.xe s := by
  have fr : ∀ y ∈ scope.names, y.2 = .free → ∃ c, X.env.cells.lookup y.1 = some c := fun y hy e => (ok.free y hy e).elim (fun k => I.ok.has _ (.inl k)) fun k => I.ok.has _ (.inr k)
  refine wpAny_comprehension_free (use := use) rfl hs (closure_ok fr) ok.kind (fun y hy e => by rw [ok.uniq y hy, e]) (thn (hi.run pins s σ H _ I h) fun _ s1 hx => thn hx fun _ s2 ⟨it, fp, tn, J, H2, e0, I2, T, t2, f2, q⟩ => ?_)
  subst e0
  refine newSet_ok (newEnv_comp ?_)
  generalize eD : s2.heap.objs.size = D
  have nD : H2 D = none := I2.hok.fresh (Nat.le_of_eq eD)
  obtain ⟨W, ⟨m0, w0⟩, turn⟩ := q D nD
  generalize e3 : ({ s2 with heap := s2.heap.push (freshO X.w) } : Shared) = s3
  have h3 : s3.heap = s2.heap.push (freshO X.w) := by rw [← e3]
  have I3 : Inv X pins σ (upd H2 D (KO X.w D (fun _ => false) 0)) s3 := by
    rw [← e3]
    refine I2.laid (t' := s2.toks) (fun b o e => Heap.get?_push_of_some _ e) (Nat.le_of_eq eD) ?_
    rw [← eD]
    exact ko_new (fresh_at (new_at s2.heap))
  have lt : ∀ b ∈ fp, b < s2.heap.objs.size := fun b hb => let ⟨_, e, _⟩ := T.obj _ _ t2 b hb; Heap.lt_size e
  have f3 : ∀ b ∈ fp, FpOk X pins (upd H2 D (KO X.w D (fun _ => false) 0)) b ∧ b < s3.heap.objs.size := fun b hb => by
    refine ⟨⟨?_, (f2 b hb).2⟩, by rw [h3, Heap.size_push]; exact Nat.lt_succ_of_lt (lt b hb)⟩
    rw [upd_ne (by rw [← eD]; exact Nat.ne_of_lt (lt b hb))]
    exact (f2 b hb).1
  have t3 : tn 0 s3.heap := T.keep _ _ _ t2 fun b _ o e => by rw [h3]; exact Heap.get?_push_of_some _ e
  have I4 := block_start I3 ok hN f3
  have pg := hg s3 (upd H2 D (KO X.w D (fun _ => false) 0)) s3.heap.objs.size (cellsFrom (s3.heap.objs.size + 1) scope.names (cloFrom X.env.cells scope.names [])) fp
  have pt := ht s3 (upd H2 D (KO X.w D (fun _ => false) 0)) s3.heap.objs.size (cellsFrom (s3.heap.objs.size + 1) scope.names (cloFrom X.env.cells scope.names [])) fp
  have pe := he s3 (upd H2 D (KO X.w D (fun _ => false) 0)) s3.heap.objs.size (cellsFrom (s3.heap.objs.size + 1) scope.names (cloFrom X.env.cells scope.names [])) fp
  show codeAny _ _ (.compStart (.SetComp elt [⟨tg, iter, ifs, 0⟩] scope p1) 0 (.ref it) (.ref D) (compEnvC scope (cellsFrom (s3.heap.objs.size + 1) scope.names (cloFrom X.env.cells scope.names [])) s3.heap.objs.size X.env)) (compPost (model X.prog X.w) X.A X.xe use Qf (.ref D) s3.heap.objs.size) { s3 with heap := pushCells (s3.heap.push { cls := .type "dict", data := .dict #[] }) scope.names }
  have nf : ∀ b ∈ fp, (upd H2 D (KO X.w D (fun _ => false) 0)) b = none := fun b hb => (f3 b hb).1.1
  generalize ec : compEnvC scope (cellsFrom (s3.heap.objs.size + 1) scope.names (cloFrom X.env.cells scope.names [])) s3.heap.objs.size X.env = ce at I4 pg pt pe ⊢
  have eL : ce.locals = s3.heap.objs.size := by subst ec; rfl
  generalize eH : upd H2 D (KO X.w D (fun _ => false) 0) = H3 at I3 I4 pg pt pe w0 nf f3
  generalize e4 : ({ s3 with heap := pushCells (s3.heap.push { cls := .type "dict", data := .dict #[] }) scope.names } : Shared) = s4 at I4 ⊢
  have t4 : tn 0 s4.heap := T.keep _ _ _ t3 fun b _ o e => by rw [← e4]; exact pushCells_keeps _ _ _ _ (Heap.get?_push_of_some _ e)
  have stat : ∀ {σ' : L2.St} {H' : Hp} {z : Shared}, Inv (X.blk s3 H3 scope ce fp) [] σ' H' z → (∀ b ∈ fp, H' b = none) → ∀ b ∈ fp, FpOk (X.blk s3 H3 scope ce fp) [] H' b := fun I' hn b hb =>
    ⟨hn b hb, (I'.ok.exf b hb).1, I'.ok.exfs b hb, .inl hb, fun x c e => (I'.ok.exf b hb).2 x c e, fun p hp => absurd (show p ∈ ([] : List (Addr × Obj)) ++ [] from hp) (by simp)⟩
  have loop : codeAny (model X.prog X.w) X.A (.compLoop (.SetComp elt [⟨tg, iter, ifs, 0⟩] scope p1) 0 (.ref it) (.ref D) ce) (compPost (model X.prog X.w) X.A X.xe use Qf (.ref D) s3.heap.objs.size) s4 := by
    refine compLoopS_any (fun n z => ∃ i H', Inv (X.blk s3 H3 scope ce fp) [] (wipe σ (own.map (·.2))) H' z ∧ tn i z.heap ∧ (∀ b ∈ fp, H' b = none) ∧ W i n H') ?_ m0 ⟨0, H3, I4, t4, nf, w0⟩
    rintro n s5 ⟨i, H5, I5, t5, n5, w5⟩
    rcases turn i n H5 w5 with ⟨stop, qq⟩ | ⟨go, Nx, hNx, step⟩
    · refine thnF (T.done (X.blk s3 H3 scope ce fp) rfl rfl rfl hc i [] s5 _ H5 (fun _ _ => False) I5 (stat I5 n5) t5 stop) fun r s6 ⟨er, I6⟩ => ?_
      subst er
      have I7 : Inv X pins σ H5 s6 := I3.call' (ch := fp) I6.os I6.base I6.hok I6.bare fun b hb => ⟨(f3 b hb).1.2.2.2.1, (f3 b hb).1.2.1, (f3 b hb).1.2.2.2.2.1, (f3 b hb).1.2.2.2.2.2⟩
      have nC : H5 s3.heap.objs.size = none := eL ▸ I6.free
      obtain ⟨m, hn, _⟩ := I6.loc
      have hn : s6.heap.Ns ce.locals m := hn
      rw [eL] at hn
      exact hE D s3.heap.objs.size s6 m H5 I7 qq hn (I3.fpOk (Nat.le_refl _) nC)
    · refine thnF (T.item (X.blk s3 H3 scope ce fp) rfl rfl rfl hc i [] s5 _ H5 (fun _ _ => False) I5 (stat I5 n5) t5 go) fun r s6 ⟨u, er, h6⟩ => ?_
      subst er
      refine thnF h6 fun _ s7 ⟨x, H7, I7, r7, y7, t7, n7⟩ => ?_
      refine thnF (pg.run _ s7 _ H7 x u _ (I7.pinned (stat I7 n7) (T.obj _ _ t7)) r7 (step x H7 y7)) fun _ s8 ⟨σ8, H8, I8, w8, q8⟩ => ?_
      refine thnF (pt.run _ s8 σ8 H8 _ I8 q8) fun b s9 ⟨H9, I9, q9⟩ => ?_
      have fin : ∀ {z : Shared} {H' : Hp}, Inv (X.blk s3 H3 scope ce fp) ([] ++ pinsAt fp s7.heap) σ8 H' z → Nx H' → ∃ m, m < n ∧ ∃ i H', Inv (X.blk s3 H3 scope ce fp) [] (wipe σ (own.map (·.2))) H' z ∧ tn i z.heap ∧ (∀ b ∈ fp, H' b = none) ∧ W i m H' := fun {z H'} I' nx => by
        obtain ⟨m', hm, w'⟩ := hNx H' nx
        have pin : ∀ b ∈ fp, ∀ o, s7.heap.get? b = some o → z.heap.get? b = some o ∧ H' b = none := fun b hb o e =>
          let y := I'.pin (b, o) (List.mem_append_right _ (List.mem_append_right _ (mem_pinsAt hb e)))
          ⟨y.1, y.2.1⟩
        refine ⟨m', hm, i + 1, H', (I'.unpinned (pins := [])).weak (by rw [← w8, wipe_length]) (fun j v e => ?_), T.keep _ _ _ t7 fun b hb o e => (pin b hb o e).1, fun b hb => ?_, w'⟩
        · rw [← w8] at e
          exact (wipe_some e).1
        · obtain ⟨o, e, _⟩ := T.obj _ _ t7 b hb
          exact (pin b hb o e).2
      cases b with
      | false =>
        simp only [Bool.false_eq_true, if_false] at q9 ⊢
        exact fin I9 q9
      | true =>
        simp only [if_true] at q9 ⊢
        refine thnF (pe.run _ s9 σ8 H9 _ I9 q9) fun u s10 ⟨y, H10, I10, r10, k, M, c, ey, hD, room, nx⟩ => ?_
        subst ey
        have hv : keyIs k u = true := by
          cases k with
          | inl j =>
            obtain ⟨z, rfl⟩ := r10
            exact keyIs_int j z
          | inr x =>
            obtain ⟨z, rfl⟩ := r10
            exact keyIs_str x z
        exact ko_add (X := X.blk s3 H3 scope ce fp) I10 hv hD room fun s11 I11 => fin I11 nx
  exact codeAny_compStart_set loop (T.self X.A 0 _ _ _ t4 loop)
theorem pe_sk {elt tg iter : Expr} {ifs : List Expr} {scope : Scope} {own : List (PySem.Str × Nat)} {pos : Pos} {wi : TI} {g : TG} {tt : TT} {te : TE} (hc : X.calm = true) (hN : X.N.Nodup) (hi : PI X tg iter wi) (ok : BlkOk X.N X.env.scope scope own)
    (hg : ∀ (s : Shared) (H : Hp) (C : Addr) (cl : List (PySem.Str × Addr)) (fp : List Addr), PG (X.blk s H scope (compEnvC scope cl C X.env) fp) tg g)
    (ht : ∀ (s : Shared) (H : Hp) (C : Addr) (cl : List (PySem.Str × Addr)) (fp : List Addr), PTs (X.blk s H scope (compEnvC scope cl C X.env) fp) ifs tt)
    (he : ∀ (s : Shared) (H : Hp) (C : Addr) (cl : List (PySem.Str × Addr)) (fp : List Addr), PE (X.blk s H scope (compEnvC scope cl C X.env) fp) elt te) (hs : ∀ x, foldedSetIterable iter X.env x = pure x) :
    PE X (.SetComp elt [⟨tg, iter, ifs, 0⟩] scope pos) (tSk X.w wi g tt te (own.map (·.2))) := by
  refine ⟨fun pins s σ H Q I h => ?_⟩
  rw [eval_SetComp]
  refine sk_core hc hN I hi ok hg ht he hs h fun D C z m H' I' q hn f => ⟨m, hn, fun h2 sb => ?_⟩
  obtain ⟨f0, f1, _, f3, f4, f5⟩ := f
  exact ⟨.ref D, H', I'.turned (t' := z.toks) (fun b o hb e => (sb.2 b hb).trans e) f0 f1 f3 f4 f5, rfl, q⟩
end
/-! ### the order -/
def nubK : List Key → List Key
  | [] => []
  | k :: ks => if hasK ks k then nubK ks else k :: nubK ks
theorem nub_mem : ∀ {ks : List Key} {k : Key}, k ∈ nubK ks ↔ k ∈ ks
  | [], k => Iff.rfl
  | j :: ks, k => by
    unfold nubK
    by_cases c : hasK ks j = true
    · rw [if_pos c, nub_mem, List.mem_cons]
      exact ⟨.inr, fun z => z.elim (fun e => e ▸ hasK_iff.mp c) id⟩
    · rw [if_neg c, List.mem_cons, List.mem_cons, nub_mem]
theorem nub_nodup : ∀ ks : List Key, (nubK ks).Nodup
  | [] => List.nodup_nil
  | j :: ks => by
    unfold nubK
    by_cases c : hasK ks j = true
    · rw [if_pos c]; exact nub_nodup ks
    · rw [if_neg c]
      exact List.nodup_cons.mpr ⟨fun z => c (hasK_iff.mpr (nub_mem.mp z)), nub_nodup ks⟩
abbrev leK : Key → Key → Bool := PySem.W.dataLe false kP
theorem leK_int (i j : Int) : leK (.inl i) (.inl j) = decide (i ≤ j) := by
  have := congrFun (congrFun (PySem.W.dataLe_int (fun x : Int => x)) i) j
  exact this
theorem leK_str (x y : Str) : leK (.inr x) (.inr y) = decide (x.cps.toList ≤ y.cps.toList) := by
  have := congrFun (congrFun (PySem.W.dataLe_str (fun x : Str => x)) x) y
  exact this
theorem leK_anti {ks : List Key} (h : OneKind ks) : ∀ a b, a ∈ ks → b ∈ ks → leK a b = true → leK b a = true → a = b := by
  intro a b ha hb h1 h2
  rcases h with h | h
  · obtain ⟨i, rfl⟩ := h a ha
    obtain ⟨j, rfl⟩ := h b hb
    rw [leK_int, decide_eq_true_eq] at h1 h2
    rw [show i = j by omega]
  · obtain ⟨x, rfl⟩ := h a ha
    obtain ⟨y, rfl⟩ := h b hb
    rw [leK_str, decide_eq_true_eq] at h1 h2
    have e : x.cps.toList = y.cps.toList := List.le_antisymm h1 h2
    congr 1
    cases x; cases y
    simpa using e
/-- the keys in order, each once -/
noncomputable def ordK (ks : List Key) : List Key := (nubK ks).mergeSort leK
theorem leK_tot : PySem.W.TotalLe leK := PySem.W.sortLe_total _ _ _
theorem ordK_uniq {ks l : List Key} (h : OneKind ks) (nd : l.Nodup) (hm : ∀ k, k ∈ l ↔ k ∈ ks) : l.mergeSort leK = ordK ks := by
  unfold ordK
  have tr : ∀ a b c : Key, leK a b = true → leK b c = true → leK a c = true := leK_tot.trans
  have tt : ∀ a b : Key, (leK a b || leK b a) = true := fun a b => by
    rw [Bool.or_eq_true]; exact leK_tot.total a b
  have p : l.Perm (nubK ks) := (List.perm_ext_iff_of_nodup nd (nub_nodup ks)).mpr fun k => by rw [hm k, nub_mem]
  refine List.Perm.eq_of_pairwise (le := fun a b => leK a b = true) (fun a b ha hb h1 h2 => ?_) (List.pairwise_mergeSort tr tt _) (List.pairwise_mergeSort tr tt _) (((List.mergeSort_perm _ _).trans p).trans (List.mergeSort_perm _ _).symm)
  exact leK_anti h a b ((hm a).mp (List.mem_mergeSort.mp ha)) (nub_mem.mp (List.mem_mergeSort.mp hb)) h1 h2
end KS
/-! RE13f: sorted(set(xs)), sorted({e for x in it}) as functions of trees. -/
namespace RE
open PySem PySem.Spec PyProof.Rows L2 KS

def isL : Key → Bool
  | .inl _ => true
  | .inr _ => false
def oneKd (ks : List Key) : Bool := ks.all isL || ks.all fun k => !isL k
theorem oneKd_ok {ks : List Key} (h : oneKd ks = true) : OneKind ks := by
  unfold oneKd at h
  rw [Bool.or_eq_true, List.all_eq_true, List.all_eq_true] at h
  rcases h with h | h
  · refine .inl fun k hk => ?_
    have := h k hk
    cases k with
    | inl i => exact ⟨i, rfl⟩
    | inr x => cases this
  · refine .inr fun k hk => ?_
    have := h k hk
    cases k with
    | inl i => cases this
    | inr x => exact ⟨x, rfl⟩
theorem OneKind.sub {ks l : List Key} (h : OneKind ks) (hm : ∀ k ∈ l, k ∈ ks) : OneKind l := h.imp (fun h k hk => h k (hm k hk)) fun h k hk => h k (hm k hk)
/-- sorted(set(xs)) -/
noncomputable def setSortL (xs : List D) : Option D := (keysA xs).bind fun ks => if oneKd ks && decide (ks.length ≤ 900) then some (.lst ((ordK ks).map keyD)) else none
noncomputable def setSortD : D → Option D
  | .lst xs => setSortL xs
  | _ => none
theorem setSortL_some {xs : List D} {d : D} (h : setSortL xs = some d) : ∃ ks, keysA xs = some ks ∧ oneKd ks = true ∧ ks.length ≤ 900 ∧ d = .lst ((ordK ks).map keyD) := by
  obtain ⟨ks, e1, e2⟩ := Option.bind_eq_some_iff.mp h
  split at e2
  · rename_i c
    rw [Bool.and_eq_true, decide_eq_true_eq] at c
    cases e2
    exact ⟨ks, e1, c.1, c.2, rfl⟩
  · cases e2
theorem keysA_cons {d : D} {ds : List D} {ks : List Key} (h : keysA (d :: ds) = some ks) : ∃ k l, keyA d = some k ∧ keysA ds = some l ∧ ks = k :: l := by
  simp only [keysA] at h
  obtain ⟨k, e1, h⟩ := Option.bind_eq_some_iff.mp h
  obtain ⟨l, e2, h⟩ := Option.bind_eq_some_iff.mp h
  cases h
  exact ⟨k, l, e1, e2, rfl⟩
theorem rep_key {P : Addr → Prop} {H : Hp} {d : D} {k : Key} {v : V} (h : keyA d = some k) (r : Rep P H d v) : v = kV k := by
  cases d <;> simp only [keyA] at h <;> cases h <;> simpa only [Rep, kV] using r
theorem RepL.ofKeys {P : Addr → Prop} {H : Hp} : ∀ ks : List Key, RepL P H (ks.map keyD) (ks.map kV)
  | [] => by simp only [List.map_nil, RepL]
  | k :: ks => by
    simp only [List.map_cons, RepL]
    refine ⟨_, _, rfl, ?_, RepL.ofKeys ks⟩
    cases k <;> simp only [keyD, Rep, kV]
section
variable {X : Cx} {ks : Ks} {F : Fn} {pos : Pos}
theorem evN_setSort {p p2 pos2 : Pos} {e : Expr} {f : SE} (hc : X.calm = true) (hu : X.A.units + 128 < cLine) (hg : Gl X "sorted") (hm : X.mg "sorted" = none) (hg2 : Gl X "set") (hm2 : X.mg "set" = none) (hs : noStar e = true) (h : EvP X ks F e f) :
    EvN X ks F (.Call (.Name "sorted" p) [.Call (.Name "set" p2) [e] [] pos2] [] pos) (cU setSortD f) := by
  obtain ⟨t, pt, q⟩ := h.ex
  refine ⟨_, pe_callB (id := "sorted") (cr_sortK hc hu) hg hm (by decide +kernel) (pa_cons (pe_callTy (T := "set") (cr_setK hc) hg2 hm2 (by decide +kernel) (pa_cons pt pa_nil (starEach_cons (noStar_ne hs))) (by decide) (by decide) (starEach_cons (noStar_ne hs)) (by rfl)) pa_nil rfl) (by decide) (by decide) rfl (by rfl), fun σ H P ρ Q d fr er ev k => ?_⟩
  obtain ⟨x, e1, ev1⟩ := Option.bind_eq_some_iff.mp ev
  cases x <;> simp only [setSortD] at ev1 <;> first | (cases ev1; done) | skip
  obtain ⟨kl, g1, g2, g3, rfl⟩ := setSortL_some ev1
  refine q σ H P ρ _ _ fr er e1 fun v H1 s1 r1 => ?_
  obtain ⟨a, vs, rfl, h1, h2⟩ := r1.lst
  have := keysA_some g1
  subst this
  have := h2.keys
  subst this
  refine ⟨a, kl, rfl, SqL.of h1, g3, fun b c hb hcl => ?_⟩
  have s2 : Same H1 (upd H1 b (KO X.w b (hasK kl) c)) := same_new hb
  refine ⟨b, hasK kl, c, rfl, upd_same, by omega, fun l hl => OneKind.sub (oneKd_ok g2) fun k hk => hasK_iff.mp (hl k hk), fun l p nd mem hp => ?_⟩
  rw [ordK_uniq (oneKd_ok g2) nd fun k => (mem k).trans hasK_iff]
  refine k _ _ ((s1.trans s2).trans (same_new hp)) ⟨?_, topNew_ref ((s1.trans s2).free hp)⟩
  simp only [Rep]
  exact ⟨p, _, rfl, ((fr.same s1).same s2) p hp, upd_same, RepL.ofKeys _⟩
/-- sorted({e for x in it if t}) -/
noncomputable def cSs (own : List Nat) (fi : SL) (asg : SG) (t : SB) (e : SE) : SE := fun F ρ => (fi F ρ).bind fun ds => (lcAll (lcOne asg t e F (wipeE ρ own)) ds).bind setSortL
theorem keysA_app : ∀ {a b : List D} {l : List Key}, keysA (a ++ b) = some l → ∃ x y, keysA a = some x ∧ keysA b = some y ∧ l = x ++ y
  | [], b, l, h => ⟨[], l, rfl, h, rfl⟩
  | d :: a, b, l, h => by
    obtain ⟨k, m, e1, e2, rfl⟩ := keysA_cons h
    obtain ⟨x, y, g1, g2, rfl⟩ := keysA_app e2
    exact ⟨k :: x, y, by simp only [keysA, e1, g1, Option.bind_some], g2, rfl⟩
theorem evN_scSort {ks' : Ks} {p pos2 : Pos} {elt tg iter : Expr} {ifs : List Expr} {scope : Scope} {own : List (Str × Nat)} {fi : SL} {is : List Nat} {asg : SG} {ft : SB} {fe : SE} (hc : X.calm = true) (hu : X.A.units + 128 < cLine) (hN : X.N.Nodup) (hgs : Gl X "sorted") (hms : X.mg "sorted" = none)
    (hi : EvI X ks F tg iter fi) (ok : BlkOk X.N X.env.scope scope own) (his : ∀ j ∈ is, j ∈ own.map (·.2)) (hk : ∀ i, i ∉ own.map (·.2) → kd ks' i = kd ks i)
    (hg : ∀ (s : Shared) (H : Hp) (C : Addr) (cl : List (Str × Addr)) (fp : List Addr), EvG (X.blk s H scope (compEnvC scope cl C X.env) fp) ks' tg is asg)
    (ht : ∀ (s : Shared) (H : Hp) (C : Addr) (cl : List (Str × Addr)) (fp : List Addr), EvTs (X.blk s H scope (compEnvC scope cl C X.env) fp) ks' F ifs ft)
    (he : ∀ (s : Shared) (H : Hp) (C : Addr) (cl : List (Str × Addr)) (fp : List Addr), EvE (X.blk s H scope (compEnvC scope cl C X.env) fp) ks' F elt fe)
    (hs : ∀ x, foldedSetIterable iter X.env x = pure x) : EvN X ks F (.Call (.Name "sorted" p) [.SetComp elt [⟨tg, iter, ifs, 0⟩] scope pos2] [] pos) (cSs (own.map (·.2)) fi asg ft fe) := by
  obtain ⟨wi, pi, q⟩ := hi.ex
  refine ⟨_, pe_callB (id := "sorted") (cr_sortK hc hu) hgs hms (by decide +kernel) (pa_cons (pe_sk (g := tG X.mg ks' is asg) (tt := tT X.mg ks' F ft) (te := tE X.mg ks' F fe) hc hN pi ok (fun s H C cl fp => (hg s H C cl fp).can) (fun s H C cl fp => (ht s H C cl fp).can) (fun s H C cl fp => (he s H C cl fp).can) hs) pa_nil rfl) (by decide) (by decide) rfl (by rfl), fun σ H P ρ Q d fr er ev k => ?_⟩
  obtain ⟨ds, e1, ev1⟩ := Option.bind_eq_some_iff.mp ev
  obtain ⟨outs, e2, ev2⟩ := Option.bind_eq_some_iff.mp ev1
  obtain ⟨kl, g1, g2, g3, rfl⟩ := setSortL_some ev2
  refine q σ H P ρ _ ds fr er e1 fun J H1 src s1 wk top Dl hD => ?_
  have fr1 := fr.same s1
  have er1 := er.same s1
  have wk := wk (fun b => P b ∧ b ≠ Dl) fun a ha pa => ⟨pa, fun e => ha (e ▸ hD)⟩
  have kept : ∀ H2, (∀ b o, H1 b = some o → H2 b = some o) → Kept (fun b => P b ∧ b ≠ Dl) src H1 H2 := fun H2 h b o e _ => h b o e
  let Pv : Nat → Hp → Prop := fun i H2 => ∃ pre l n, lcAll (lcOne asg ft fe F (wipeE ρ (own.map (·.2)))) (ds.take i) = some pre ∧ keysA pre = some l ∧ n ≤ l.length ∧ H2 Dl = some (KO X.w Dl (hasK l) n) ∧ ∀ b o, H1 b = some o → H2 b = some o
  refine it_gen (n := ds.length) (Pv := Pv) ?_ ?_ ?_ ?_
  · refine ⟨[], [], 0, by simp [lcAll], rfl, Nat.le_refl _, upd_same, fun b o e => ?_⟩
    rw [upd_ne (ne_of_none e hD)]; exact e
  · rintro i H2 hi ⟨pre, l, n, _, _, _, _, h⟩
    exact wk.goes H2 i (kept H2 h) hi
  · rintro H2 ⟨pre, l, n, hpre, hl, hn, hDl, hkp⟩
    refine ⟨wk.stops H2 (kept H2 hkp), ?_⟩
    rw [List.take_length, e2] at hpre
    cases hpre
    rw [g1] at hl
    cases hl
    refine ⟨Dl, hasK kl, n, rfl, hDl, by omega, fun l hl => OneKind.sub (oneKd_ok g2) fun k hk => hasK_iff.mp (hl k hk), fun l p nd mem hp => ?_⟩
    rw [ordK_uniq (oneKd_ok g2) nd fun k => (mem k).trans hasK_iff]
    have s2 : Same H1 H2 := hkp
    refine k _ _ ((s1.trans s2).trans (same_new hp)) ⟨?_, topNew_ref ((s1.trans s2).free hp)⟩
    simp only [Rep]
    exact ⟨p, _, rfl, (fr1.same s2) p hp, upd_same, RepL.ofKeys _⟩
  · rintro i x H2 H3 hi ⟨pre, l, n, hpre, hl, hn, hDl, hkp⟩ yl
    obtain ⟨s3, d, hd, rd⟩ := wk.yields H2 i x H3 (kept H2 hkp) hi yl
    have e3 : ds.take (i + 1) = ds.take i ++ [d] := by rw [List.take_add_one, hd]; rfl
    obtain ⟨pre', post, e4, e5⟩ := lcAll_take e2 (i + 1)
    have e4' := e4
    rw [e3, lcAll_snoc, hpre] at e4
    simp only [Option.bind_some] at e4
    obtain ⟨ys, e6, rfl⟩ := Option.map_eq_some_iff.mp e4
    obtain ⟨ρ', e7, e8⟩ := Option.bind_eq_some_iff.mp e6
    obtain ⟨b, e9, e10⟩ := Option.bind_eq_some_iff.mp e8
    have hD3 : H3 Dl = some (KO X.w Dl (hasK l) n) := s3 _ _ hDl
    have all3 : ∀ b o, H1 b = some o → H3 b = some o := fun b o e => s3 b o (hkp b o e)
    have fr3 : Fre (fun b => P b ∧ b ≠ Dl) H3 := fre_minus (fr1.same all3) (by rw [hD3]; simp)
    have er3 : ER X.mg (fun b => P b ∧ b ≠ Dl) ks' H3 (L2.wipe σ (own.map (·.2))) (wipeE ρ (own.map (·.2))) := ER.wipe (er1.mono all3 fun a ha pa => ⟨pa, fun e => ha (e ▸ hD)⟩) hk
    refine ⟨_, _, _, d, rd, er3, e7, fun σ' er' hl' hj => ⟨wipe_eq hl' hj his, ?_⟩⟩
    refine ⟨_, ρ', b, fr3, er', e9, fun H4 s4 => ?_⟩
    have all4 : ∀ b o, H1 b = some o → H4 b = some o := fun b o e => s4 b o (all3 b o e)
    cases b with
    | false =>
      rw [if_neg Bool.false_ne_true] at e10
      refine iteF ?_
      cases e10
      exact ⟨pre ++ [], l, n, e4', by rw [List.append_nil]; exact hl, hn, s4 _ _ hD3, all4⟩
    | true =>
      rw [if_pos rfl] at e10
      refine iteT ?_
      obtain ⟨y, e11, rfl⟩ := Option.map_eq_some_iff.mp e10
      refine ⟨_, ρ', y, fr3.same s4, er'.same s4, e11, fun v H5 s5 r5 => ?_⟩
      rw [e5] at g1
      obtain ⟨l1, l2, m1, _, e12⟩ := keysA_app g1
      obtain ⟨l3, l4, m3, m4, e13⟩ := keysA_app m1
      rw [hl] at m3
      cases m3
      obtain ⟨kk, l5, m5, m6, rfl⟩ := keysA_cons m4
      simp only [keysA] at m6
      cases m6
      have hD5 : H5 Dl = some (KO X.w Dl (hasK l) n) := s5 _ _ (s4 _ _ hD3)
      have ev := rep_key m5 r5
      subst ev
      have len : l.length + 1 ≤ kl.length := by rw [e12, e13]; simp only [List.length_append, List.length_cons, List.length_nil]; omega
      refine ⟨kk, hasK l, n, rfl, hD5, by unfold scanBound; omega, pre ++ [y], l1, (if hasK l kk = true then n else n + 1), e4', m1, ?_, ?_, fun b o e => ?_⟩
      · rw [e13, List.length_append, List.length_singleton]; split <;> omega
      · rw [upd_same, e13]
        congr 2
        funext j
        exact (hasK_app l kk j).symm
      · rw [upd_ne (ne_of_none e hD)]
        exact s5 b o (all4 b o e)
end
end RE
/-! RE13g: the least of a list of alike data, as it stands. -/
namespace RE
open PySem PySem.Spec PyProof.Rows L2

mutual
theorem toP_inj : ∀ (n m : Nat) (d e : D), pd n d = true → pd m e = true → toP d = toP e → d = e
  | n, m, .non, e, h1, h2, h => by cases e <;> simp [toP] at h <;> first | rfl | (cases m <;> simp [pd] at h2)
  | n, m, .bl b, e, h1, h2, h => by cases e <;> simp [toP] at h; rw [h]
  | n, m, .int b, e, h1, h2, h => by cases e <;> simp [toP] at h; rw [h]
  | n, m, .str b, e, h1, h2, h => by cases e <;> simp [toP] at h; rw [h]
  | 0, m, .tup xs, e, h1, h2, h => by simp [pd] at h1
  | 0, m, .lst xs, e, h1, h2, h => by simp [pd] at h1
  | n + 1, m, .tup xs, e, h1, h2, h => by
    cases e <;> simp [toP] at h
    rename_i ys
    cases m with
    | zero => simp [pd] at h2
    | succ m =>
      simp only [pd] at h1 h2
      rw [toPs_inj n m xs ys h1 h2 h]
  | n + 1, m, .lst xs, e, h1, h2, h => by
    cases e <;> simp [toP] at h
    rename_i ys
    cases m with
    | zero => simp [pd] at h2
    | succ m =>
      simp only [pd] at h1 h2
      rw [toPs_inj n m xs ys h1 h2 h]
  | n, m, .dic t x, e, h1, h2, h => by cases n <;> simp [pd] at h1
  | n, m, .scr x, e, h1, h2, h => by cases n <;> simp [pd] at h1
  | n, m, .fn x, e, h1, h2, h => by cases n <;> simp [pd] at h1
theorem toPs_inj : ∀ (n m : Nat) (d e : List D), d.all (pd n) = true → e.all (pd m) = true → toPs d = toPs e → d = e
  | n, m, [], [], _, _, _ => rfl
  | n, m, [], y :: ys, _, _, h => by simp [toPs] at h
  | n, m, x :: xs, [], _, _, h => by simp [toPs] at h
  | n, m, x :: xs, y :: ys, h1, h2, h => by
    simp only [toPs, List.cons.injEq] at h
    rw [List.all_cons, Bool.and_eq_true] at h1 h2
    rw [toP_inj n m x y h1.1 h2.1 h.1, toPs_inj n m xs ys h1.2 h2.2 h.2]
end
/-- the first of the least -/
def dMinL (x : D) (xs : List D) : D := xs.foldl (fun a y => if PySem.W.dataLt (toP y) (toP a) then y else a) x
theorem dMin_toP : ∀ (xs : List D) (x : D), toP (dMinL x xs) = PySem.W.minD (toP x) (xs.map toP)
  | [], x => rfl
  | y :: xs, x => by
    unfold dMinL PySem.W.minD
    rw [List.foldl_cons, List.map_cons, List.foldl_cons]
    have := dMin_toP xs (if PySem.W.dataLt (toP y) (toP x) then y else x)
    unfold dMinL PySem.W.minD at this
    rw [this]
    congr 1
    split <;> rfl
theorem dMin_mem : ∀ (xs : List D) (x : D), dMinL x xs ∈ x :: xs
  | [], x => List.mem_cons_self
  | y :: xs, x => by
    unfold dMinL
    rw [List.foldl_cons]
    have := dMin_mem xs (if PySem.W.dataLt (toP y) (toP x) then y else x)
    unfold dMinL at this
    rcases List.mem_cons.mp this with h | h
    · rw [h]
      split
      · simp
      · simp
    · exact List.mem_cons_of_mem _ (List.mem_cons_of_mem _ h)
def minDD : D → Option D
  | .lst (x :: xs) => if sortOk (x :: xs) then some (dMinL x xs) else none
  | _ => none
def rMinD (K : PySem.W.Frag) : List V → Hp → VK → Prop := fun vs H Q => ∃ (a : Addr) (p : D × V) (ps : List (D × V)), vs = [V.ref a] ∧ SqL K H a ((p :: ps).map (·.2)) ∧ (∀ q ∈ p :: ps, Dp K H q.2 (toP q.1)) ∧ PySem.W.AlikeAll ((p :: ps).map fun q => toP q.1) ∧ PyData.depthAll ((p :: ps).map fun q => toP q.1) ≤ 60 ∧
  ∀ q ∈ p :: ps, toP q.1 = PySem.W.minD (toP p.1) (ps.map fun q => toP q.1) → Q q.2 H
theorem vals_at : ∀ {vs : List V} {us : List Value}, Vals vs us → ∀ (i : Nat) (u : Value), us[i]? = some u → ∃ v, vs[i]? = some v ∧ RelV v u
  | _, _, .nil, i, u, h => by simp at h
  | _, _, .cons r t, 0, u, h => by cases h; exact ⟨_, rfl, r⟩
  | _, _, .cons r t, i + 1, u, h => by
    obtain ⟨v, e, r'⟩ := vals_at t i u (by simpa using h)
    exact ⟨v, by simpa using e, r'⟩
theorem dpAll_of {K : PySem.W.Frag} {H : Hp} : ∀ {ps : List (D × V)}, (∀ q ∈ ps, Dp K H q.2 (toP q.1)) → DpAll K H (ps.map (·.2)) (ps.map fun q => toP q.1)
  | [], _ => .nil
  | p :: ps, h => .cons (h p List.mem_cons_self) (dpAll_of fun q hq => h q (List.mem_cons_of_mem _ hq))
theorem cr_minD {X : Cx} (hc : X.calm = true) (hu : X.A.units + 128 < cLine) : CallR X (.builtin "min") (rMinD X.K) := by
  intro pins s σ H vs us Q I r h
  obtain ⟨a, p, ps, rfl, hs, hd, hal, hdep, q⟩ := h
  obtain ⟨its, rv, hl, _⟩ := I.list hs
  rw [Vals.ref1 r]
  obtain ⟨as, hr⟩ := Dp.readsAll I _ _ _ (dpAll_of hd) rv
  rw [List.map_cons] at hr hal hdep
  refine PySem.W.min_list_data (I.ok.hd hc) hl.isList (by simpa using hr) hal (by omega) fun i v h' tk bs hv hrd hk => ?_
  obtain ⟨w, ew, rw'⟩ := vals_at rv i v (by simpa using hv)
  rw [List.getElem?_map] at ew
  cases hq : (p :: ps)[i]? with
  | none => rw [hq] at ew; cases ew
  | some z =>
    rw [hq] at ew
    cases ew
    have hz := List.mem_of_getElem? hq
    obtain ⟨cs, r2⟩ := Dp.reads I _ _ _ (hd z hz) rw'
    exact ⟨z.2, H, I.kept hk, rw', q z hz (PySem.Reads.unique (Reads.keeps hk r2) _ _ hrd).1⟩
section
variable {X : Cx} {ks : Ks} {F : Fn} {pos : Pos}
theorem depthAll_le {n : Nat} : ∀ {xs : List PyData}, (∀ x ∈ xs, x.depth ≤ n) → PyData.depthAll xs ≤ n
  | [], _ => by simp [PyData.depthAll]
  | x :: xs, h => by
    simp only [PyData.depthAll]
    exact Nat.max_le.mpr ⟨h x List.mem_cons_self, depthAll_le fun y hy => h y (List.mem_cons_of_mem _ hy)⟩
theorem evE_min {p : Pos} {e : Expr} {f : SE} (hc : X.calm = true) (hu : X.A.units + 128 < cLine) (hg : Gl X "min") (hm : X.mg "min" = none) (hs : noStar e = true) (h : EvP X ks F e f) :
    EvE X ks F (.Call (.Name "min" p) [e] [] pos) (cU minDD f) := by
  obtain ⟨t, pt, q⟩ := h.ex
  refine ⟨_, pe_callB (id := "min") (cr_minD hc hu) hg hm (by decide +kernel) (pa_cons pt pa_nil (starEach_cons (noStar_ne hs))) (by decide) (by decide) (starEach_cons (noStar_ne hs)) (by rfl), fun σ H P ρ Q d fr er ev k => ?_⟩
  obtain ⟨x, e1, ev⟩ := Option.bind_eq_some_iff.mp ev
  refine q σ H P ρ _ x fr er e1 fun v H1 s1 r1 => ?_
  cases x <;> simp only [minDD] at ev <;> first | (cases ev; done) | skip
  rename_i xs
  cases xs with
  | nil => cases ev
  | cons x xs =>
    simp only at ev
    split at ev
    · rename_i c
      cases ev
      unfold sortOk at c
      simp only [Bool.and_eq_true, Bool.or_eq_true] at c
      obtain ⟨⟨c1, c2⟩, c3, c4⟩ := c
      obtain ⟨a, vs, rfl, h1, h2⟩ := r1.lst
      obtain ⟨ps, e1', rfl, h3⟩ := h2.pairs
      cases ps with
      | nil => cases e1'
      | cons p' ps =>
        rw [List.map_cons, List.cons.injEq] at e1'
        obtain ⟨rfl, rfl⟩ := e1'
        have hp : ∀ q ∈ p' :: ps, q.1 ∈ p'.1 :: ps.map (·.1) := fun q hq => by
          have := List.mem_map.mpr ⟨q, hq, (rfl : q.1 = q.1)⟩
          rwa [List.map_cons] at this
        rw [List.all_eq_true] at c1 c3
        refine ⟨a, p', ps, rfl, SqL.of h1, fun q hq => (h3 q hq).toB.dp (mg := X.mg) (c1 _ (hp q hq)), ⟨?_, ?_⟩, depthAll_le ?_, fun q hq eq => ?_⟩
        · intro d hd d' hd'
          obtain ⟨p1, hp1, rfl⟩ := List.mem_map.mp hd
          obtain ⟨p2, hp2, rfl⟩ := List.mem_map.mp hd'
          have := c3 _ (hp p1 hp1)
          rw [List.all_eq_true] at this
          exact this _ (hp p2 hp2)
        · intro d hd
          obtain ⟨p1, hp1, rfl⟩ := List.mem_map.mp hd
          have h5 := c1 _ (hp p1 hp1)
          have h6 : isTup1 p1.1 = true ∨ notTN p1.1 = true ∨ isTupA p1.1 = true := by
            rcases c4 with (c4 | c4) | c4
            · rw [List.all_eq_true] at c4; exact .inl (c4 _ (hp p1 hp1))
            · rw [List.all_eq_true] at c4; exact .inr (.inl (c4 _ (hp p1 hp1)))
            · rw [List.all_eq_true] at c4; exact .inr (.inr (c4 _ (hp p1 hp1)))
          generalize p1.1 = z at h5 h6
          cases z with
          | non => rcases h6 with h6 | h6 | h6 <;> cases h6
          | dic _ _ => simp [pd] at h5
          | scr _ => simp [pd] at h5
          | fn _ => simp [pd] at h5
          | tup l => simp [toP]
          | bl b => simp [toP]
          | int b => simp [toP]
          | str b => simp [toP]
          | lst b => simp [toP]
        · intro d hd
          obtain ⟨p1, hp1, rfl⟩ := List.mem_map.mp hd
          exact (pd_ok _ _ (c1 _ (hp p1 hp1))).2
        · have e3 : q.1 = dMinL p'.1 (ps.map (·.1)) := by
            refine toP_inj 60 60 _ _ (c1 _ (hp q hq)) (c1 _ (dMin_mem _ _)) ?_
            rw [dMin_toP, List.map_map]
            exact eq
          refine k _ H1 s1 ?_
          rw [← e3]
          exact h3 q hq
    · cases ev
end
end RE
/-! RE13h: dicts walked by their keys: locked meanwhile. -/
namespace RE
open PySem PySem.Spec PyProof.Rows L2

def isDO : HO → Prop
  | .dK _ => True
  | .dT _ => True
  | _ => False
theorem isDO.mut {u : HO} (h : isDO u) : L2.Mut (some u) := by cases u <;> first | exact h.elim | trivial
/-- what the locking or unlocking of a dict leaves -/
structure Lck (H H' : Hp) : Prop where
  tup : ∀ b vs, H b = some (.tup vs) → H' b = some (.tup vs)
  lst : ∀ b vs, H b = some (.lst vs) → H' b = some (.lst vs)
  scr : ∀ b o ns, H b = some (.frz o (.lst ns)) → H' b = some (.frz o (.lst ns))
  dk : ∀ b ks, Rd H b (.dK ks) → Rd H' b (.dK ks)
  dt : ∀ b ks, Rd H b (.dT ks) → Rd H' b (.dT ks)
  free : ∀ b, H' b = none → H b = none
theorem lck_on {H : Hp} {a : Addr} {u : HO} (h : H a = some u) (hu : isDO u) (od : Obj) : Lck H (upd H a (.frz od u)) where
  tup := fun b vs e => by
    rw [upd_ne (fun z => by rw [z, h] at e; cases e; exact hu)]; exact e
  lst := fun b vs e => by
    rw [upd_ne (fun z => by rw [z, h] at e; cases e; exact hu)]; exact e
  scr := fun b o ns e => by
    rw [upd_ne (fun z => by rw [z, h] at e; cases e; exact hu)]; exact e
  dk := fun b ks r => by
    by_cases c : b = a
    · subst c
      rcases r with r | ⟨o, r⟩ <;> rw [h] at r <;> cases r
      · exact .inr ⟨od, upd_same⟩
      · exact hu.elim
    · rcases r with r | ⟨o, r⟩
      · exact .inl (by rw [L2.upd_ne c]; exact r)
      · exact .inr ⟨o, by rw [L2.upd_ne c]; exact r⟩
  dt := fun b ks r => by
    by_cases c : b = a
    · subst c
      rcases r with r | ⟨o, r⟩ <;> rw [h] at r <;> cases r
      · exact .inr ⟨od, upd_same⟩
      · exact hu.elim
    · rcases r with r | ⟨o, r⟩
      · exact .inl (by rw [L2.upd_ne c]; exact r)
      · exact .inr ⟨o, by rw [L2.upd_ne c]; exact r⟩
  free := fun b e => by
    by_cases c : b = a
    · subst c; rw [upd_same] at e; cases e
    · rwa [L2.upd_ne c] at e
theorem lck_off {H : Hp} {a : Addr} {u : HO} {od : Obj} (h : H a = some (.frz od u)) (hu : isDO u) : Lck H (upd H a u) where
  tup := fun b vs e => by
    rw [upd_ne (fun z => by rw [z, h] at e; cases e)]; exact e
  lst := fun b vs e => by
    rw [upd_ne (fun z => by rw [z, h] at e; cases e)]; exact e
  scr := fun b o ns e => by
    rw [upd_ne (fun z => by rw [z, h] at e; cases e; exact hu)]; exact e
  dk := fun b ks r => by
    by_cases c : b = a
    · subst c
      rcases r with r | ⟨o, r⟩ <;> rw [h] at r <;> cases r
      exact .inl upd_same
    · rcases r with r | ⟨o, r⟩
      · exact .inl (by rw [L2.upd_ne c]; exact r)
      · exact .inr ⟨o, by rw [L2.upd_ne c]; exact r⟩
  dt := fun b ks r => by
    by_cases c : b = a
    · subst c
      rcases r with r | ⟨o, r⟩ <;> rw [h] at r <;> cases r
      exact .inl upd_same
    · rcases r with r | ⟨o, r⟩
      · exact .inl (by rw [L2.upd_ne c]; exact r)
      · exact .inr ⟨o, by rw [L2.upd_ne c]; exact r⟩
  free := fun b e => by
    by_cases c : b = a
    · subst c; rw [upd_same] at e; cases e
    · rwa [L2.upd_ne c] at e
theorem HD.lck {H H' : Hp} (l : Lck H H') {t : Bool} {a : Addr} {ps : List (D × V)} (h : HD t H a ps) : HD t H' a ps := by
  cases t <;> obtain ⟨ks, r, e⟩ := h
  · exact ⟨ks, l.dk _ _ r, e⟩
  · exact ⟨ks, l.dt _ _ r, e⟩
mutual
theorem Rep.lck {P : Addr → Prop} {H H' : Hp} (l : Lck H H') : ∀ (d : D) (v : V), Rep P H d v → Rep P H' d v
  | .non, v, h => by unfold Rep at h ⊢; exact h
  | .bl b, v, h => by unfold Rep at h ⊢; exact h
  | .int i, v, h => by unfold Rep at h ⊢; exact h
  | .str x, v, h => by unfold Rep at h ⊢; exact h
  | .tup ds, v, h => by
    unfold Rep at h ⊢
    obtain ⟨a, vs, e, h1, h2⟩ := h
    exact ⟨a, vs, e, l.tup _ _ h1, RepL.lck l ds vs h2⟩
  | .lst ds, v, h => by
    unfold Rep at h ⊢
    obtain ⟨a, vs, e, h0, h1, h2⟩ := h
    exact ⟨a, vs, e, h0, l.lst _ _ h1, RepL.lck l ds vs h2⟩
  | .dic t kvs, v, h => by
    unfold Rep at h ⊢
    obtain ⟨a, ps, e, h0, h1, h2⟩ := h
    exact ⟨a, ps, e, h0, h1.lck l, RepKV.lck l kvs ps h2⟩
  | .scr ns, v, h => by
    unfold Rep at h ⊢
    obtain ⟨a, o, e, h1⟩ := h
    exact ⟨a, o, e, l.scr _ _ _ h1⟩
  | .fn f, v, h => by unfold Rep at h; exact h.elim
theorem RepL.lck {P : Addr → Prop} {H H' : Hp} (l : Lck H H') : ∀ (ds : List D) (vs : List V), RepL P H ds vs → RepL P H' ds vs
  | [], vs, h => by unfold RepL at h ⊢; exact h
  | d :: ds, vs, h => by
    unfold RepL at h ⊢
    obtain ⟨v, r, e, h1, h2⟩ := h
    exact ⟨v, r, e, Rep.lck l d v h1, RepL.lck l ds r h2⟩
theorem RepKV.lck {P : Addr → Prop} {H H' : Hp} (l : Lck H H') : ∀ (kvs : List (D × D)) (ps : List (D × V)), RepKV P H kvs ps → RepKV P H' kvs ps
  | [], ps, h => by unfold RepKV at h ⊢; exact h
  | (k, d) :: kvs, ps, h => by
    unfold RepKV at h ⊢
    obtain ⟨v, r, e, h1, h2⟩ := h
    exact ⟨v, r, e, Rep.lck l d v h1, RepKV.lck l kvs r h2⟩
end
theorem RepB.lck {mg : Str → Option Value} {P : Addr → Prop} {H H' : Hp} {d : D} {v : V} (l : Lck H H') (h : RepB mg P H d v) : RepB mg P H' d v := by
  cases d <;> simp only [RepB] at h ⊢ <;> first | exact h | exact Rep.lck l _ _ h | skip
  · obtain ⟨a, vs, e, h1, h2⟩ := h; exact ⟨a, vs, e, l.lst _ _ h1, RepL.lck l _ _ h2⟩
  · obtain ⟨a, vs, e, h1, h2⟩ := h; exact ⟨a, vs, e, h1.lck l, RepKV.lck l _ _ h2⟩
theorem RepK.lck {mg : Str → Option Value} {P : Addr → Prop} {H H' : Hp} {k : Kind} {d : D} {v : V} (l : Lck H H') (h : RepK mg P H k d v) : RepK mg P H' k d v := by
  cases k with
  | F => exact Rep.lck l _ _ h
  | M => exact RepB.lck l h
  | L => exact RepB.lck l h
  | B => exact RepB.lck l h
theorem ER.lck {mg : Str → Option Value} {P : Addr → Prop} {ks : Ks} {H H' : Hp} {σ : L2.St} {ρ : RE.Env} (l : Lck H H') (h : ER mg P ks H σ ρ) : ER mg P ks H' σ ρ := ⟨h.1, fun i d e =>
  let ⟨v, e1, r⟩ := h.2 i d e
  ⟨v, e1, r.lck l⟩⟩
theorem Fre.lck {P : Addr → Prop} {H H' : Hp} (l : Lck H H') (f : Fre P H) : Fre P H' := fun a h => f a (l.free a h)
/-- the dict in slot i is locked -/
def LockAt (i : Nat) (σ : L2.St) (H : Hp) : Prop := ∃ a o u, σ[i]? = some (some (.ref a)) ∧ H a = some (.frz o u)
structure EvIx (L : L2.St → Hp → Prop) (X : Cx) (ks : Ks) (F : Fn) (tg iter : Expr) (f : SL) : Prop where
  ex : ∃ wi : TI, PI X tg iter wi ∧ ∀ σ H, L σ H → ∀ (P : Addr → Prop) (ρ : RE.Env) (R : It → Hp → Prop) (ds : List D), Fre P H → ER X.mg P ks H σ ρ → f F ρ = some ds →
    (∀ J H1 src, Same H H1 → (∀ P', (∀ a, H1 a ≠ none → P a → P' a) → WalkD P' src J ds H1) → (∀ a ∈ src, Top ks σ ρ P a) → R J H1) → wi σ H R
/-- the keys of the dict in slot i -/
def cKeys (i : Nat) : SL := fun _ ρ => match ρ[i]? with
  | some (some (.dic _ kvs)) => some (kvs.map (·.1))
  | _ => none
theorem cKeys_some {i : Nat} {F : Fn} {ρ : RE.Env} {ds : List D} (h : cKeys i F ρ = some ds) : ∃ t kvs, ρ[i]? = some (some (.dic t kvs)) ∧ ds = kvs.map (·.1) := by
  unfold cKeys at h
  split at h
  · rename_i t kvs e
    cases h
    exact ⟨t, kvs, e, rfl⟩
  · cases h
theorem RepKV.keys {P : Addr → Prop} {H : Hp} : ∀ {kvs : List (D × D)} {ps : List (D × V)}, RepKV P H kvs ps → kvs.map (·.1) = ps.map (·.1)
  | [], ps, h => by unfold RepKV at h; rw [h]; rfl
  | (k, d) :: kvs, ps, h => by
    unfold RepKV at h
    obtain ⟨v, r, e, h1, h2⟩ := h
    rw [e, List.map_cons, List.map_cons, RepKV.keys h2]
theorem rep_keyV {P : Addr → Prop} {H : Hp} (k : Key) : Rep P H (keyD k) (kV k) := by cases k <;> simp only [keyD, Rep, kV]
theorem repL_keys {P : Addr → Prop} {H : Hp} : ∀ ks : List Key, RepL P H (ks.map keyD) (ks.map kV)
  | [] => by simp only [List.map_nil, RepL]
  | k :: ks => by
    simp only [List.map_cons, RepL]
    exact ⟨_, _, rfl, rep_keyV k, repL_keys ks⟩
theorem evIx_keys {X : Cx} {ks : Ks} {F : Fn} {tg : Expr} {pos : Pos} {i : Nat} {x : Str} (hN : X.N[i]? = some x) (hv : Vis X.env.scope x) (hd : (x == ("__debug__" : Str)) = false) (hcd : (x == ("__classdict__" : Str)) = false) :
    EvIx (LockAt i) X ks F tg (.Name x pos) (cKeys i) := by
  refine ⟨_, pi_keys (pe_var hN hv hd hcd), fun σ H hL P ρ R ds fr er ev k => ?_⟩
  obtain ⟨t, kvs, e1, rfl⟩ := cKeys_some ev
  obtain ⟨v, e2, r⟩ := er.2 i _ e1
  obtain ⟨a, o, u, e3, ha⟩ := hL
  rw [e2] at e3; cases e3
  refine ⟨.ref a, e2, a, o, rfl, ?_⟩
  obtain ⟨b, ps, eb, hh, hkv⟩ := r.toB.dic
  cases eb
  have hkeys := hkv.keys
  cases t with
  | false =>
    obtain ⟨kk, rd, rfl⟩ := hh
    rcases rd with rd | ⟨o', rd⟩
    · rw [ha] at rd; cases rd
    · rw [ha] at rd; cases rd
      refine .inl ⟨kk, ha, k _ H [] (Same.refl H) (fun P2 hp2 => ⟨by simp, fun H2 j kp hj => ?_, fun H2 kp => ?_, fun H2 j x H3 kp hj y => ?_⟩) (by simp)⟩
      · refine ⟨kp _ _ ha (.inr (.inl fun z => z)), ?_⟩
        rw [hkeys, List.length_map, List.length_map] at hj; exact hj
      · refine ⟨kp _ _ ha (.inr (.inl fun z => z)), ?_⟩
        rw [hkeys, List.length_map, List.length_map]; exact Nat.le_refl _
      · obtain ⟨rfl, q, w, e4, rfl⟩ := y
        refine ⟨Same.refl _, keyD q, ?_, rep_keyV q⟩
        rw [hkeys, List.map_map, List.getElem?_map, e4]
        rfl
  | true =>
    obtain ⟨kk, rd, rfl⟩ := hh
    rcases rd with rd | ⟨o', rd⟩
    · rw [ha] at rd; cases rd
    · rw [ha] at rd; cases rd
      refine .inr ⟨kk, ha, k _ H [] (Same.refl H) (fun P2 hp2 => ⟨by simp, fun H2 j kp hj => ?_, fun H2 kp => ?_, fun H2 j x H3 kp hj y => ?_⟩) (by simp)⟩
      · refine ⟨kp _ _ ha (.inr (.inl fun z => z)), ?_⟩
        rw [hkeys, List.length_map, List.length_map] at hj; exact hj
      · refine ⟨kp _ _ ha (.inr (.inl fun z => z)), ?_⟩
        rw [hkeys, List.length_map, List.length_map]; exact Nat.le_refl _
      · obtain ⟨rfl, q, w, p, e4, rfl, e5⟩ := y
        refine ⟨Same.refl _, .tup (q.map keyD), ?_, ?_⟩
        · rw [hkeys, List.map_map, List.getElem?_map, e4]
          rfl
        · simp only [Rep]
          exact ⟨p, _, rfl, e5, repL_keys q⟩
theorem evx_lc {L : L2.St → Hp → Prop} {X : Cx} {ks ks' : Ks} {F : Fn} {elt tg iter : Expr} {ifs : List Expr} {scope : Scope} {own : List (Str × Nat)} {pos : Pos} {fi : SL} {is : List Nat} {asg : SG} {ft : SB} {fe : SE} (hc : X.calm = true) (hN : X.N.Nodup)
    (hi : EvIx L X ks F tg iter fi) (ok : BlkOk X.N X.env.scope scope own) (his : ∀ j ∈ is, j ∈ own.map (·.2)) (hk : ∀ i, i ∉ own.map (·.2) → kd ks' i = kd ks i)
    (hg : ∀ (s : Shared) (H : Hp) (C : Addr) (cl : List (Str × Addr)) (fp : List Addr), EvG (X.blk s H scope (compEnvC scope cl C X.env) fp) ks' tg is asg)
    (ht : ∀ (s : Shared) (H : Hp) (C : Addr) (cl : List (Str × Addr)) (fp : List Addr), EvTs (X.blk s H scope (compEnvC scope cl C X.env) fp) ks' F ifs ft)
    (he : ∀ (s : Shared) (H : Hp) (C : Addr) (cl : List (Str × Addr)) (fp : List Addr), EvE (X.blk s H scope (compEnvC scope cl C X.env) fp) ks' F elt fe)
    (hs : ∀ x, foldedSetIterable iter X.env x = pure x) : ∃ t : TE, (PE X (.ListComp elt [⟨tg, iter, ifs, 0⟩] scope pos) t ∧ ∀ (i : Nat) (y : Str) (py spos : Pos), X.N[i]? = some y → X.env.scope.names.lookup y = some .local → swapsWith (.ListComp elt [⟨tg, iter, ifs, 0⟩] scope pos) (some (.Name y py)) spos.line X.env = pure true → PS X (.Assign [.Name y py] (.ListComp elt [⟨tg, iter, ifs, 0⟩] scope pos) spos) (tAsg t (gName i))) ∧ ∀ σ H, L σ H → Cn X.mg H ks F (cLc (own.map (·.2)) fi asg ft fe) σ (fun P d v H' => Rep P H' d v ∧ TopNew H d v) t := by
  obtain ⟨wi, pi, q⟩ := hi.ex
  refine ⟨_, ⟨pe_lc (g := tG X.mg ks' is asg) (tt := tT X.mg ks' F ft) (te := tE X.mg ks' F fe) hc hN pi ok (fun s H C cl fp => (hg s H C cl fp).can) (fun s H C cl fp => (ht s H C cl fp).can) (fun s H C cl fp => (he s H C cl fp).can) hs,
    fun i y py spos hy hyl hsw => ps_setLc (g := tG X.mg ks' is asg) (tt := tT X.mg ks' F ft) (te := tE X.mg ks' F fe) hc hN hy hyl hsw pi ok (fun s H C cl fp => (hg s H C cl fp).can) (fun s H C cl fp => (ht s H C cl fp).can) (fun s H C cl fp => (he s H C cl fp).can) hs⟩, fun σ H hL P ρ Q d fr er ev k => ?_⟩
  obtain ⟨ds, e1, ev1⟩ := Option.bind_eq_some_iff.mp ev
  obtain ⟨outs, e2, ev2⟩ := Option.bind_eq_some_iff.mp ev1
  obtain ⟨rfl, hlen⟩ := mkLst_some ev2
  refine q σ H hL P ρ _ ds fr er e1 fun J H1 src s1 wk top Dl hD => ?_
  have fr1 := fr.same s1
  have er1 := er.same s1
  have wk := wk (fun b => P b ∧ b ≠ Dl) fun a ha pa => ⟨pa, fun e => ha (e ▸ hD)⟩
  have kept : ∀ H2, (∀ b o, H1 b = some o → H2 b = some o) → Kept (fun b => P b ∧ b ≠ Dl) src H1 H2 := fun H2 h b o e _ => h b o e
  refine lc_it (n := ds.length) (G := fun H2 => Kept (fun b => P b ∧ b ≠ Dl) src H1 H2) (Y := fun i H2 x H3 => Same H2 H3 ∧ ∃ d, ds[i]? = some d ∧ Rep (fun b => P b ∧ b ≠ Dl) H3 d x) ⟨fun i H2 hi g => wk.goes H2 i g hi, fun H2 g => wk.stops H2 g, fun i H2 x H3 hi g y => wk.yields H2 i x H3 g hi y⟩
    (fun i H2 => ∃ vs pre, lcAll (lcOne asg ft fe F (wipeE ρ (own.map (·.2)))) (ds.take i) = some pre ∧ H2 Dl = some (.lst vs) ∧ RepL (fun b => P b ∧ b ≠ Dl) H2 pre vs ∧ ∀ b o, H1 b = some o → H2 b = some o) ?_ ?_ ?_ ?_
  · refine ⟨[], [], by simp [lcAll], upd_same, by simp [RepL], fun b o e => ?_⟩
    rw [upd_ne (ne_of_none e hD)]; exact e
  · rintro i H2 _ ⟨vs, pre, _, _, _, h⟩
    exact kept H2 h
  · rintro i x H2 H3 hi ⟨vs, pre, hpre, hDl, hr, hkp⟩ ⟨s3, d, hd, rd⟩
    have e3 : ds.take (i + 1) = ds.take i ++ [d] := by rw [List.take_add_one, hd]; rfl
    obtain ⟨pre', post, e4, e5⟩ := lcAll_take e2 (i + 1)
    have e4' := e4
    rw [e3, lcAll_snoc, hpre] at e4
    simp only [Option.bind_some] at e4
    obtain ⟨ys, e6, rfl⟩ := Option.map_eq_some_iff.mp e4
    obtain ⟨ρ', e7, e8⟩ := Option.bind_eq_some_iff.mp e6
    obtain ⟨b, e9, e10⟩ := Option.bind_eq_some_iff.mp e8
    have hD3 : H3 Dl = some (.lst vs) := s3 _ _ hDl
    have all3 : ∀ b o, H1 b = some o → H3 b = some o := fun b o e => s3 b o (hkp b o e)
    have sm : Same H1 H3 := all3
    have fr3 : Fre (fun b => P b ∧ b ≠ Dl) H3 := fre_minus (fr1.same sm) (by rw [hD3]; simp)
    have er3 : ER X.mg (fun b => P b ∧ b ≠ Dl) ks' H3 (L2.wipe σ (own.map (·.2))) (wipeE ρ (own.map (·.2))) := ER.wipe (er1.mono sm fun a ha pa => ⟨pa, fun e => ha (e ▸ hD)⟩) hk
    refine ⟨_, _, _, d, rd, er3, e7, fun σ' er' hl hj => ⟨wipe_eq hl hj his, ?_⟩⟩
    refine ⟨_, ρ', b, fr3, er', e9, fun H4 s4 => ?_⟩
    have all4 : ∀ b o, H1 b = some o → H4 b = some o := fun b o e => s4 b o (all3 b o e)
    cases b with
    | false =>
      rw [if_neg Bool.false_ne_true] at e10
      refine iteF ?_
      cases e10
      exact ⟨vs, pre ++ [], e4', s4 _ _ hD3, by rw [List.append_nil]; exact (hr.same s3).same s4, all4⟩
    | true =>
      rw [if_pos rfl] at e10
      refine iteT ?_
      obtain ⟨y, e11, rfl⟩ := Option.map_eq_some_iff.mp e10
      refine ⟨_, ρ', y, fr3.same s4, er'.same s4, e11, fun v H5 s5 r5 => ?_⟩
      have hD5 : H5 Dl = some (.lst vs) := s5 _ _ (s4 _ _ hD3)
      have rl := ((hr.same s3).same s4).same s5
      refine ⟨vs, hD5, ?_, vs ++ [v], pre ++ [y], e4', upd_same, ?_, fun b o e => ?_⟩
      · rw [rl.len]
        have : outs.length = (pre ++ [y]).length + post.length := by rw [e5, List.length_append]
        rw [List.length_append, List.length_singleton] at this
        omega
      · have r6 : RepL (fun b => P b ∧ b ≠ Dl) H5 (pre ++ [y]) (vs ++ [v]) := rl.app (by simp only [RepL]; exact ⟨v, [], rfl, r5, rfl⟩)
        exact RepL.chg (by rw [hD5]; trivial) (fun z => z.2 rfl) _ _ r6
      · rw [upd_ne (ne_of_none e hD)]
        exact s5 b o (all4 b o e)
  · rintro H2 ⟨vs, pre, hpre, hDl, hr, hkp⟩
    rw [List.take_length, e2] at hpre
    cases hpre
    refine k _ H2 (s1.trans hkp) ⟨?_, ?_⟩
    · simp only [Rep]
      exact ⟨Dl, vs, rfl, fr1 Dl hD, hDl, hr.weak fun a z => z.1⟩
    · exact topNew_ref (s1.free hD)

theorem peOr {X : Cx} {e : Expr} {t u : TE} (h : PE X e t) (g : PE X e u) : PE X e (fun σ H Q => t σ H Q ∨ u σ H Q) :=
  ⟨fun pins s σ H Q I q => q.elim (fun z => h.run pins s σ H Q I z) fun z => g.run pins s σ H Q I z⟩
theorem psOrA {X : Cx} {st : Stmt} {t u : TS} (h : PS X st t) (g : PS X st u) : PS X st (fun D σ H => t D σ H ∨ u D σ H) :=
  ⟨fun pins s σ H D I q => q.elim (fun z => h.run pins s σ H D I z) fun z => g.run pins s σ H D I z⟩
theorem same_off {H H' : Hp} {a : Addr} {u : HO} {od : Obj} (h : H a = some u) (s : Same (upd H a (.frz od u)) H') : Same H (upd H' a u) := fun b o e => by
  by_cases c : b = a
  · subst c; rw [h] at e; cases e; exact upd_same
  · rw [L2.upd_ne c]
    exact s b o (by rw [L2.upd_ne c]; exact e)
theorem evNS_lcD {X : Cx} {ks ks' : Ks} {F : Fn} {elt tg : Expr} {ifs : List Expr} {scope : Scope} {own : List (Str × Nat)} {pos p : Pos} {i : Nat} {x : Str} {is : List Nat} {asg : SG} {ft : SB} {fe : SE} (hc : X.calm = true) (hN : X.N.Nodup)
    (hi : X.N[i]? = some x) (hv : Vis X.env.scope x) (hd : (x == ("__debug__" : Str)) = false) (hcd : (x == ("__classdict__" : Str)) = false) (ok : BlkOk X.N X.env.scope scope own) (his : ∀ j ∈ is, j ∈ own.map (·.2)) (hk : ∀ i, i ∉ own.map (·.2) → kd ks' i = kd ks i)
    (hg : ∀ (s : Shared) (H : Hp) (C : Addr) (cl : List (Str × Addr)) (fp : List Addr), EvG (X.blk s H scope (compEnvC scope cl C X.env) fp) ks' tg is asg)
    (ht : ∀ (s : Shared) (H : Hp) (C : Addr) (cl : List (Str × Addr)) (fp : List Addr), EvTs (X.blk s H scope (compEnvC scope cl C X.env) fp) ks' F ifs ft)
    (he : ∀ (s : Shared) (H : Hp) (C : Addr) (cl : List (Str × Addr)) (fp : List Addr), EvE (X.blk s H scope (compEnvC scope cl C X.env) fp) ks' F elt fe)
    (hs : ∀ y, foldedSetIterable (.Name x p) X.env y = pure y) : EvNS X ks F (.ListComp elt [⟨tg, .Name x p, ifs, 0⟩] scope pos) (cLc (own.map (·.2)) (cKeys i) asg ft fe) := by
  obtain ⟨t, ⟨pt, pp⟩, q⟩ := evx_lc hc hN (evIx_keys (F := F) (ks := ks) (tg := tg) (pos := p) hi hv hd hcd) ok his hk hg ht he hs
  refine ⟨fun σ H Q => t σ H Q ∨ tLockE t σ H Q, ⟨peOr pt (pe_lock pt), fun i' y py spos hy hyl hsw => psOrA (pp i' y py spos hy hyl hsw) (ps_lock (pp i' y py spos hy hyl hsw))⟩, fun σ H P ρ Q d fr er ev k => ?_⟩
  obtain ⟨ds, e1, ev1⟩ := Option.bind_eq_some_iff.mp ev
  obtain ⟨tt, kvs, e2, rfl⟩ := cKeys_some e1
  obtain ⟨v, e3, r⟩ := er.2 i _ e2
  obtain ⟨a, ps, rfl, hh, hkv⟩ := r.toB.dic
  have cases2 : (∃ u, isDO u ∧ H a = some u) ∨ ∃ o u, isDO u ∧ H a = some (.frz o u) := by
    cases tt with
    | false =>
      obtain ⟨kk, rd, _⟩ := hh
      rcases rd with rd | ⟨o, rd⟩
      · exact .inl ⟨.dK kk, trivial, rd⟩
      · exact .inr ⟨o, .dK kk, trivial, rd⟩
    | true =>
      obtain ⟨kk, rd, _⟩ := hh
      rcases rd with rd | ⟨o, rd⟩
      · exact .inl ⟨.dT kk, trivial, rd⟩
      · exact .inr ⟨o, .dT kk, trivial, rd⟩
  rcases cases2 with ⟨u, hu, ha⟩ | ⟨o, u, hu, ha⟩
  · refine .inr ⟨a, u, ha, hu.mut, fun od => ?_⟩
    have lk := lck_on ha hu od
    refine q σ _ ⟨a, od, u, e3, upd_same⟩ P ρ _ d (fr.lck lk) (er.lck lk) ev fun w H' s ⟨r1, r2⟩ => ?_
    have ha' := s a _ upd_same
    refine ⟨ha', k w _ (same_off ha s) ⟨Rep.lck (lck_off ha' hu) d w r1, ?_⟩⟩
    cases d <;> simp only [TopNew] at r2 ⊢ <;> exact fun b eb => lk.free b (r2 b eb)
  · exact .inl (q σ H ⟨a, o, u, e3, ha⟩ P ρ Q d fr er ev k)
end RE
/-! RE13i: dicts made by a comprehension, keys alone or tuples. -/
namespace RE
open PySem PySem.Spec PyProof.Rows L2

def newD (k : Bool) : HO := if k then .dT [] else .dK []
theorem new_ok (k : Bool) {P : Program} {w : World} {H : Hp} (h : Heap) (hb : sysModules < h.objs.size) : ObjOk P w H (h.push { cls := .type "dict", data := .dict #[] }) h.objs.size (newD k) := by
  cases k
  · exact dk_empty h hb
  · exact dt_empty h hb
theorem d_dictSetG {X : Cx} {pins : List (Addr × Obj)} {σ : L2.St} {H H' : Hp} {s : Shared} {E : Value → Shared → Prop} {a : Addr} {y v : V} {u r : Value} {Q : Unit → Shared → Prop} (hu : X.A.units + 1 < cLine) (I : Inv X pins σ H s) (g : DPut H a y v H') (ry : RelV y u) (rv : RelV v r)
    (h : ∀ s', Inv X pins σ H' s' → Q () s') : wpAny (model X.prog X.w) X.A (dictSet a u r) Q E s := by
  rcases g with ⟨kvs, k, e, ey, l, eH⟩ | ⟨kvs, k, b, e, ey, eb, l, eH⟩
  · subst ey eH
    obtain ⟨z, hd, vs, rel, dd⟩ := dk_of I.hok e
    have hz : vs.length ≤ sizeLine := by rw [← rel.length]; exact z
    have hl : (putK kvs k v).length ≤ sizeLine := by have := length_putK kvs k v; omega
    refine wpAny_dictSet_pairs (hsz := hz) (kV_is ry) dd fun h' dd' hs => h _ ?_
    exact d_write I (by rw [e]; exact True.intro) hs (let ⟨q, _, _, hq, _⟩ := dd'; ⟨q, hq⟩) (dk_new hl hd (rel.put k rv) dd')
  · subst ey eH
    cases (show u = Value.ref b from ry)
    obtain ⟨z, hd, xs, rel, dd⟩ := dt_of I.hok e
    have hz : xs.length ≤ sizeLine := by rw [← Paired.length rel]; exact z
    have hl : (putK kvs k v).length ≤ sizeLine := by have := length_putK kvs k v; omega
    refine wpAny_dictSet_heap (hsz := hz) (show (tupleKind (mixKind X.prog X.w)).room X.A from Nat.lt_of_succ_lt hu) (key_of I.hok eb) dd fun h' dd' hs => h _ ?_
    obtain ⟨q, es, ep, hq, h2, h3, h4, _, h5⟩ := dd'
    refine d_write I (by rw [e]; exact True.intro) hs ⟨q, hq⟩ ⟨hl, hd, _, (rel.put k eb rv).keeps fun c ys ec => ?_, q, es, ep, hq, h2, h3, h4, h5⟩
    rw [upd_ne (ne_of ec e (fun z => nomatch z))]
    exact ec
section
variable {X : Cx}
/-- {kx: vx for target in iter if ..}; k: keys are tuples -/
def tDg (k : Bool) (wi : TI) (g : TG) (tt : TT) (tk tv : TE) (vs : List Nat) : TE := fun σ H Q => wi σ H fun J H1 => ∀ D, H1 D = none → ∃ W : Nat → Nat → Hp → Prop, (∃ m, W 0 m (upd H1 D (newD k))) ∧ ∀ i m H, W i m H →
  (J.stop i H ∧ Q (.ref D) H) ∨ (J.go i H ∧ ∃ Nx : Hp → Prop, (∀ H', Nx H' → ∃ m', m' < m ∧ W (i + 1) m' H') ∧ ∀ x H', J.yld i H x H' → g x (wipe σ vs) H' fun σ2 H2 => wipe σ2 vs = wipe σ vs ∧ tt σ2 H2 fun b H3 =>
    if b = true then tk σ2 H3 fun y H4 => tv σ2 H4 fun z H5 => ∃ H6, DPut H5 D y z H6 ∧ Nx H6 else Nx H3)
theorem dg_core (k : Bool) {pins : List (Addr × Obj)} {s : Shared} {σ : L2.St} {H : Hp} {Q : VK} {kx vx tg iter : Expr} {ifs : List Expr} {scope : Scope} {own : List (PySem.Str × Nat)} {p1 p2 : Pos} {wi : TI} {g : TG} {tt : TT} {tk tv : TE} {use : Option (Value → Sem Unit)} {Qf : Value → Shared → Prop}
    (hu : X.A.units + 1 < cLine) (hc : X.calm = true) (hN : X.N.Nodup) (I : Inv X pins σ H s) (hi : PI X tg iter wi) (ok : BlkOk X.N X.env.scope scope own)
    (hg : ∀ (s : Shared) (H : Hp) (C : Addr) (cl : List (PySem.Str × Addr)) (fp : List Addr), PG (X.blk s H scope (compEnvC scope cl C X.env) fp) tg g)
    (ht : ∀ (s : Shared) (H : Hp) (C : Addr) (cl : List (PySem.Str × Addr)) (fp : List Addr), PTs (X.blk s H scope (compEnvC scope cl C X.env) fp) ifs tt)
    (hk : ∀ (s : Shared) (H : Hp) (C : Addr) (cl : List (PySem.Str × Addr)) (fp : List Addr), PE (X.blk s H scope (compEnvC scope cl C X.env) fp) kx tk)
    (he : ∀ (s : Shared) (H : Hp) (C : Addr) (cl : List (PySem.Str × Addr)) (fp : List Addr), PE (X.blk s H scope (compEnvC scope cl C X.env) fp) vx tv)
    (hs : ∀ x, foldedSetIterable iter X.env x = pure x) (h : tDg k wi g tt tk tv (own.map (·.2)) σ H Q)
    (hE : ∀ D C z m H', Inv X pins σ H' z → Q (.ref D) H' → z.heap.Ns C m → FpOk X pins H' C → compPost (model X.prog X.w) X.A X.xe use Qf (.ref D) C (.ok .next) z) :
    wpAny (model X.prog X.w) X.A (comprehension (.DictComp kx vx [⟨tg, iter, ifs, 0⟩] scope p1) scope X.env p2 newDict false (eval iter X.env) use) Qf X.xe s := by
  have fr : ∀ y ∈ scope.names, y.2 = .free → ∃ c, X.env.cells.lookup y.1 = some c := fun y hy e => (ok.free y hy e).elim (fun k => I.ok.has _ (.inl k)) fun k => I.ok.has _ (.inr k)
  refine wpAny_comprehension_free (use := use) rfl hs (closure_ok fr) ok.kind (fun y hy e => by rw [ok.uniq y hy, e]) (thn (hi.run pins s σ H _ I h) fun _ s1 hx => thn hx fun _ s2 ⟨it, fp, tn, J, H2, e0, I2, T, t2, f2, q⟩ => ?_)
  subst e0
  refine wpAny_newObj_type (newEnv_comp ?_)
  generalize eD : s2.heap.objs.size = D
  have nD : H2 D = none := I2.hok.fresh (Nat.le_of_eq eD)
  obtain ⟨W, ⟨m0, w0⟩, turn⟩ := q D nD
  generalize e3 : ({ s2 with heap := s2.heap.push { cls := .type "dict", data := .dict #[] } } : Shared) = s3
  have h3 : s3.heap = s2.heap.push { cls := .type "dict", data := .dict #[] } := by rw [← e3]
  have I3 : Inv X pins σ (upd H2 D (newD k)) s3 := by
    rw [← e3]
    refine I2.laid (t' := s2.toks) (fun b o e => Heap.get?_push_of_some _ e) (Nat.le_of_eq eD) ?_
    rw [← eD]
    exact new_ok k s2.heap I2.big
  have lt : ∀ b ∈ fp, b < s2.heap.objs.size := fun b hb => let ⟨_, e, _⟩ := T.obj _ _ t2 b hb; Heap.lt_size e
  have f3 : ∀ b ∈ fp, FpOk X pins (upd H2 D (newD k)) b ∧ b < s3.heap.objs.size := fun b hb => by
    refine ⟨⟨?_, (f2 b hb).2⟩, by rw [h3, Heap.size_push]; exact Nat.lt_succ_of_lt (lt b hb)⟩
    rw [upd_ne (by rw [← eD]; exact Nat.ne_of_lt (lt b hb))]
    exact (f2 b hb).1
  have t3 : tn 0 s3.heap := T.keep _ _ _ t2 fun b _ o e => by rw [h3]; exact Heap.get?_push_of_some _ e
  have I4 := block_start I3 ok hN f3
  have pg := hg s3 (upd H2 D (newD k)) s3.heap.objs.size (cellsFrom (s3.heap.objs.size + 1) scope.names (cloFrom X.env.cells scope.names [])) fp
  have pt := ht s3 (upd H2 D (newD k)) s3.heap.objs.size (cellsFrom (s3.heap.objs.size + 1) scope.names (cloFrom X.env.cells scope.names [])) fp
  have pk := hk s3 (upd H2 D (newD k)) s3.heap.objs.size (cellsFrom (s3.heap.objs.size + 1) scope.names (cloFrom X.env.cells scope.names [])) fp
  have pe := he s3 (upd H2 D (newD k)) s3.heap.objs.size (cellsFrom (s3.heap.objs.size + 1) scope.names (cloFrom X.env.cells scope.names [])) fp
  show codeAny _ _ (.compStart (.DictComp kx vx [⟨tg, iter, ifs, 0⟩] scope p1) 0 (.ref it) (.ref D) (compEnvC scope (cellsFrom (s3.heap.objs.size + 1) scope.names (cloFrom X.env.cells scope.names [])) s3.heap.objs.size X.env)) (compPost (model X.prog X.w) X.A X.xe use Qf (.ref D) s3.heap.objs.size) { s3 with heap := pushCells (s3.heap.push { cls := .type "dict", data := .dict #[] }) scope.names }
  have nf : ∀ b ∈ fp, (upd H2 D (newD k)) b = none := fun b hb => (f3 b hb).1.1
  generalize ec : compEnvC scope (cellsFrom (s3.heap.objs.size + 1) scope.names (cloFrom X.env.cells scope.names [])) s3.heap.objs.size X.env = ce at I4 pg pt pk pe ⊢
  have eL : ce.locals = s3.heap.objs.size := by subst ec; rfl
  generalize eH : upd H2 D (newD k) = H3 at I3 I4 pg pt pk pe w0 nf f3
  generalize e4 : ({ s3 with heap := pushCells (s3.heap.push { cls := .type "dict", data := .dict #[] }) scope.names } : Shared) = s4 at I4 ⊢
  have t4 : tn 0 s4.heap := T.keep _ _ _ t3 fun b _ o e => by rw [← e4]; exact pushCells_keeps _ _ _ _ (Heap.get?_push_of_some _ e)
  have stat : ∀ {σ' : L2.St} {H' : Hp} {z : Shared}, Inv (X.blk s3 H3 scope ce fp) [] σ' H' z → (∀ b ∈ fp, H' b = none) → ∀ b ∈ fp, FpOk (X.blk s3 H3 scope ce fp) [] H' b := fun I' hn b hb =>
    ⟨hn b hb, (I'.ok.exf b hb).1, I'.ok.exfs b hb, .inl hb, fun x c e => (I'.ok.exf b hb).2 x c e, fun p hp => absurd (show p ∈ ([] : List (Addr × Obj)) ++ [] from hp) (by simp)⟩
  have loop : codeAny (model X.prog X.w) X.A (.compLoop (.DictComp kx vx [⟨tg, iter, ifs, 0⟩] scope p1) 0 (.ref it) (.ref D) ce) (compPost (model X.prog X.w) X.A X.xe use Qf (.ref D) s3.heap.objs.size) s4 := by
    refine compLoop_anyD (fun n z => ∃ i H', Inv (X.blk s3 H3 scope ce fp) [] (wipe σ (own.map (·.2))) H' z ∧ tn i z.heap ∧ (∀ b ∈ fp, H' b = none) ∧ W i n H') ?_ m0 ⟨0, H3, I4, t4, nf, w0⟩
    rintro n s5 ⟨i, H5, I5, t5, n5, w5⟩
    rcases turn i n H5 w5 with ⟨stop, qq⟩ | ⟨go, Nx, hNx, step⟩
    · refine thnF (T.done (X.blk s3 H3 scope ce fp) rfl rfl rfl hc i [] s5 _ H5 (fun _ _ => False) I5 (stat I5 n5) t5 stop) fun r s6 ⟨er, I6⟩ => ?_
      subst er
      have I7 : Inv X pins σ H5 s6 := I3.call' (ch := fp) I6.os I6.base I6.hok I6.bare fun b hb => ⟨(f3 b hb).1.2.2.2.1, (f3 b hb).1.2.1, (f3 b hb).1.2.2.2.2.1, (f3 b hb).1.2.2.2.2.2⟩
      have nC : H5 s3.heap.objs.size = none := eL ▸ I6.free
      obtain ⟨m, hn, _⟩ := I6.loc
      have hn : s6.heap.Ns ce.locals m := hn
      rw [eL] at hn
      exact hE D s3.heap.objs.size s6 m H5 I7 qq hn (I3.fpOk (Nat.le_refl _) nC)
    · refine thnF (T.item (X.blk s3 H3 scope ce fp) rfl rfl rfl hc i [] s5 _ H5 (fun _ _ => False) I5 (stat I5 n5) t5 go) fun r s6 ⟨u, er, h6⟩ => ?_
      subst er
      refine thnF h6 fun _ s7 ⟨x, H7, I7, r7, y7, t7, n7⟩ => ?_
      refine thnF (pg.run _ s7 _ H7 x u _ (I7.pinned (stat I7 n7) (T.obj _ _ t7)) r7 (step x H7 y7)) fun _ s8 ⟨σ8, H8, I8, w8, q8⟩ => ?_
      refine thnF (pt.run _ s8 σ8 H8 _ I8 q8) fun b s9 ⟨H9, I9, q9⟩ => ?_
      have fin : ∀ {z : Shared} {H' : Hp}, Inv (X.blk s3 H3 scope ce fp) ([] ++ pinsAt fp s7.heap) σ8 H' z → Nx H' → ∃ m, m < n ∧ ∃ i H', Inv (X.blk s3 H3 scope ce fp) [] (wipe σ (own.map (·.2))) H' z ∧ tn i z.heap ∧ (∀ b ∈ fp, H' b = none) ∧ W i m H' := fun {z H'} I' nx => by
        obtain ⟨m', hm, w'⟩ := hNx H' nx
        have pin : ∀ b ∈ fp, ∀ o, s7.heap.get? b = some o → z.heap.get? b = some o ∧ H' b = none := fun b hb o e =>
          let y := I'.pin (b, o) (List.mem_append_right _ (List.mem_append_right _ (mem_pinsAt hb e)))
          ⟨y.1, y.2.1⟩
        refine ⟨m', hm, i + 1, H', (I'.unpinned (pins := [])).weak (by rw [← w8, wipe_length]) (fun j v e => ?_), T.keep _ _ _ t7 fun b hb o e => (pin b hb o e).1, fun b hb => ?_, w'⟩
        · rw [← w8] at e
          exact (wipe_some e).1
        · obtain ⟨o, e, _⟩ := T.obj _ _ t7 b hb
          exact (pin b hb o e).2
      cases b with
      | false =>
        simp only [Bool.false_eq_true, if_false] at q9 ⊢
        exact fin I9 q9
      | true =>
        simp only [if_true] at q9 ⊢
        refine thnF (pk.run _ s9 σ8 H9 _ I9 q9) fun z s10 ⟨yk, H10, I10, r10, q10⟩ => ?_
        refine thnF (pe.run _ s10 σ8 H10 _ I10 q10) fun z2 s11 ⟨yv, H11, I11, r11, H6, g6, nx⟩ => ?_
        exact d_dictSetG (X := X.blk s3 H3 scope ce fp) hu I11 g6 r10 r11 fun s12 I12 => fin I12 nx
  exact codeAny_compStart_dict loop (T.self X.A 0 _ _ _ t4 loop)
theorem pe_dg (k : Bool) (hu : X.A.units + 1 < cLine) {kx vx tg iter : Expr} {ifs : List Expr} {scope : Scope} {own : List (PySem.Str × Nat)} {pos : Pos} {wi : TI} {g : TG} {tt : TT} {tk tv : TE} (hc : X.calm = true) (hN : X.N.Nodup) (hi : PI X tg iter wi) (ok : BlkOk X.N X.env.scope scope own)
    (hg : ∀ (s : Shared) (H : Hp) (C : Addr) (cl : List (PySem.Str × Addr)) (fp : List Addr), PG (X.blk s H scope (compEnvC scope cl C X.env) fp) tg g)
    (ht : ∀ (s : Shared) (H : Hp) (C : Addr) (cl : List (PySem.Str × Addr)) (fp : List Addr), PTs (X.blk s H scope (compEnvC scope cl C X.env) fp) ifs tt)
    (hk : ∀ (s : Shared) (H : Hp) (C : Addr) (cl : List (PySem.Str × Addr)) (fp : List Addr), PE (X.blk s H scope (compEnvC scope cl C X.env) fp) kx tk)
    (he : ∀ (s : Shared) (H : Hp) (C : Addr) (cl : List (PySem.Str × Addr)) (fp : List Addr), PE (X.blk s H scope (compEnvC scope cl C X.env) fp) vx tv) (hs : ∀ x, foldedSetIterable iter X.env x = pure x) :
    PE X (.DictComp kx vx [⟨tg, iter, ifs, 0⟩] scope pos) (tDg k wi g tt tk tv (own.map (·.2))) := by
  refine ⟨fun pins s σ H Q I h => ?_⟩
  rw [arm_eval_DictComp]
  refine dg_core k hu hc hN I hi ok hg ht hk he hs h fun D C z m H' I' q hn f => ⟨m, hn, fun h2 sb => ?_⟩
  obtain ⟨f0, f1, _, f3, f4, f5⟩ := f
  exact ⟨.ref D, H', I'.turned (t' := z.toks) (fun b o hb e => (sb.2 b hb).trans e) f0 f1 f3 f4 f5, rfl, q⟩
/-- name = {..} on one line, the name a local -/
theorem ps_setDg (k : Bool) (hu : X.A.units + 1 < cLine) {i : Nat} {y : Str} {py : Pos} {kx vx tg iter : Expr} {ifs : List Expr} {scope : Scope} {own : List (PySem.Str × Nat)} {pos spos : Pos} {wi : TI} {g : TG} {tt : TT} {tk tv : TE} (hc : X.calm = true) (hN : X.N.Nodup) (hy : X.N[i]? = some y) (hyl : X.env.scope.names.lookup y = some .local)
    (hsw : swapsWith (.DictComp kx vx [⟨tg, iter, ifs, 0⟩] scope pos) (some (.Name y py)) spos.line X.env = pure true) (hi : PI X tg iter wi) (ok : BlkOk X.N X.env.scope scope own)
    (hg : ∀ (s : Shared) (H : Hp) (C : Addr) (cl : List (PySem.Str × Addr)) (fp : List Addr), PG (X.blk s H scope (compEnvC scope cl C X.env) fp) tg g)
    (ht : ∀ (s : Shared) (H : Hp) (C : Addr) (cl : List (PySem.Str × Addr)) (fp : List Addr), PTs (X.blk s H scope (compEnvC scope cl C X.env) fp) ifs tt)
    (hk : ∀ (s : Shared) (H : Hp) (C : Addr) (cl : List (PySem.Str × Addr)) (fp : List Addr), PE (X.blk s H scope (compEnvC scope cl C X.env) fp) kx tk)
    (he : ∀ (s : Shared) (H : Hp) (C : Addr) (cl : List (PySem.Str × Addr)) (fp : List Addr), PE (X.blk s H scope (compEnvC scope cl C X.env) fp) vx tv) (hs : ∀ x, foldedSetIterable iter X.env x = pure x) :
    PS X (.Assign [.Name y py] (.DictComp kx vx [⟨tg, iter, ifs, 0⟩] scope pos) spos) (tAsg (tDg k wi g tt tk tv (own.map (·.2))) (gName i)) := by
  refine ⟨fun pins s σ H D I h => ?_⟩
  rw [exec_Assign_Name_used _ _ _ _ hsw]
  refine wpAny_bind (wpAny_standAt (wpAny_bind ?_))
  show wpAny _ X.A (do let _ ← comprehension (.DictComp kx vx [⟨tg, iter, ifs, 0⟩] scope pos) scope X.env (firstIterPos [⟨tg, iter, ifs, 0⟩] pos) newDict false (eval iter X.env) (some (assign (.Name y py) X.env))) _ _ s
  have h : tDg k wi g tt tk tv (own.map (·.2)) σ H (fun x H1 => gName i x σ H1 D.nx) := h
  refine wpAny_bind (thn (dg_core k (Qf := fun _ s' => SP X pins D .next s') hu hc hN I hi ok hg ht hk he hs h fun L C s' m H' I' q hn f => ?_) fun _ s' hq => wpAny_pure (wpAny_pure hq))
  show wpAny _ _ (assign (.Name y py) X.env (.ref L)) _ _ _
  refine wpAny_assign_Name (store_ok2 (v := V.ref L) I' hN hy (.inl hyl) rfl (fun s2 I2 ⟨a, sb, ha⟩ => ?_) (.inr hyl))
  obtain ⟨f0, f1, f2, f3, f4, f5⟩ := f
  have haC : C ≠ a := by
    rcases ha with z | z
    · rw [z]; exact f1
    · exact fun e => f4 y a z e.symm
  refine ⟨m, hn.sameBut sb haC, fun h3 sb3 => ?_⟩
  exact ⟨_, H', I2.turned (t' := s2.toks) (fun b o hb e => (sb3.2 b hb).trans e) f0 f1 f3 f4 f5, q⟩
/-- e gives f: a new object, not locked; also straight into a name -/
structure EvMS (X : Cx) (ks : Ks) (F : Fn) (e : Expr) (f : SE) : Prop where
  ex : ∃ t : TE, (PE X e t ∧ ∀ (i : Nat) (y : Str) (py spos : Pos), X.N[i]? = some y → X.env.scope.names.lookup y = some .local → swapsWith e (some (.Name y py)) spos.line X.env = pure true → PS X (.Assign [.Name y py] e spos) (tAsg t (gName i))) ∧
    ∀ σ H, Cn X.mg H ks F f σ (fun P d v H' => Rep P H' d v ∧ TopNew H d v ∧ Unl H' d v) t
theorem EvMS.toM {ks : Ks} {F : Fn} {e : Expr} {f : SE} (h : EvMS X ks F e f) : EvM X ks F e f := let ⟨t, p, q⟩ := h.ex; ⟨t, p.1, q⟩
end
section
variable {X : Cx} {ks ks' : Ks} {F : Fn} {pos : Pos}
def dcOne (asg : SG) (t : SB) (kx vx : SE) (F : Fn) (ρ : RE.Env) (d : D) : Option (Option (D × D)) := (asg d ρ).bind fun ρ' => (t F ρ').bind fun b => if b then (kx F ρ').bind fun y => (vx F ρ').map fun z => some (y, z) else some none
def dcPut (acc : D) : Option (D × D) → Option D
  | none => some acc
  | some p => putD acc p.1 p.2
def dcFold (one : D → Option (Option (D × D))) : D → List D → Option D
  | acc, [] => some acc
  | acc, d :: ds => (one d).bind fun p => (dcPut acc p).bind fun acc' => dcFold one acc' ds
theorem dcFold_app (one : D → Option (Option (D × D))) : ∀ (a b : List D) (acc : D), dcFold one acc (a ++ b) = (dcFold one acc a).bind fun acc' => dcFold one acc' b
  | [], b, acc => rfl
  | d :: a, b, acc => by
    rw [List.cons_append, dcFold, dcFold, Option.bind_assoc]
    congr 1; funext p
    rw [Option.bind_assoc]
    congr 1; funext acc'
    exact dcFold_app one a b acc'
/-- {kx: vx for target in iter if ..} -/
def cDc (k : Bool) (own : List Nat) (fi : SL) (asg : SG) (t : SB) (kx vx : SE) : SE := fun F ρ => (fi F ρ).bind fun ds => dcFold (dcOne asg t kx vx F (wipeE ρ own)) (.dic k []) ds
theorem putD_dic {k : Bool} {kvs : List (D × D)} {y z d : D} (h : putD (.dic k kvs) y z = some d) : ∃ kvs', d = .dic k kvs' := by
  simp only [putD] at h
  split at h
  · obtain ⟨q, _, rfl⟩ := Option.map_eq_some_iff.mp h
    exact ⟨q, rfl⟩
  · cases h
theorem evMS_dc (k : Bool) {kx vx tg iter : Expr} {ifs : List Expr} {scope : Scope} {own : List (Str × Nat)} {fi : SL} {is : List Nat} {asg : SG} {ft : SB} {fk fe : SE} (hu : X.A.units + 1 < cLine) (hc : X.calm = true) (hN : X.N.Nodup)
    (hi : EvI X ks F tg iter fi) (ok : BlkOk X.N X.env.scope scope own) (his : ∀ j ∈ is, j ∈ own.map (·.2)) (hk : ∀ i, i ∉ own.map (·.2) → kd ks' i = kd ks i)
    (hg : ∀ (s : Shared) (H : Hp) (C : Addr) (cl : List (Str × Addr)) (fp : List Addr), EvG (X.blk s H scope (compEnvC scope cl C X.env) fp) ks' tg is asg)
    (ht : ∀ (s : Shared) (H : Hp) (C : Addr) (cl : List (Str × Addr)) (fp : List Addr), EvTs (X.blk s H scope (compEnvC scope cl C X.env) fp) ks' F ifs ft)
    (hx : ∀ (s : Shared) (H : Hp) (C : Addr) (cl : List (Str × Addr)) (fp : List Addr), EvE (X.blk s H scope (compEnvC scope cl C X.env) fp) ks' F kx fk)
    (he : ∀ (s : Shared) (H : Hp) (C : Addr) (cl : List (Str × Addr)) (fp : List Addr), EvE (X.blk s H scope (compEnvC scope cl C X.env) fp) ks' F vx fe)
    (hs : ∀ x, foldedSetIterable iter X.env x = pure x) : EvMS X ks F (.DictComp kx vx [⟨tg, iter, ifs, 0⟩] scope pos) (cDc k (own.map (·.2)) fi asg ft fk fe) := by
  obtain ⟨wi, pi, q⟩ := hi.ex
  refine ⟨tDg k wi (tG X.mg ks' is asg) (tT X.mg ks' F ft) (tE X.mg ks' F fk) (tE X.mg ks' F fe) (own.map (·.2)), ⟨pe_dg k hu hc hN pi ok (fun s H C cl fp => (hg s H C cl fp).can) (fun s H C cl fp => (ht s H C cl fp).can) (fun s H C cl fp => (hx s H C cl fp).can) (fun s H C cl fp => (he s H C cl fp).can) hs, fun i y py spos hy hyl hsw => ps_setDg k hu hc hN hy hyl hsw pi ok (fun s H C cl fp => (hg s H C cl fp).can) (fun s H C cl fp => (ht s H C cl fp).can) (fun s H C cl fp => (hx s H C cl fp).can) (fun s H C cl fp => (he s H C cl fp).can) hs⟩, fun σ H P ρ Q d fr er ev kQ => ?_⟩
  obtain ⟨ds, e1, e2⟩ := Option.bind_eq_some_iff.mp ev
  refine q σ H P ρ _ ds fr er e1 fun J H1 src s1 wk top Dl hD => ?_
  have fr1 := fr.same s1
  have er1 := er.same s1
  have wk := wk (fun b => P b ∧ b ≠ Dl) fun a ha pa => ⟨pa, fun e => ha (e ▸ hD)⟩
  have kept : ∀ H2, (∀ b o, H1 b = some o → H2 b = some o) → Kept (fun b => P b ∧ b ≠ Dl) src H1 H2 := fun H2 h b o e _ => h b o e
  let Pv : Nat → Hp → Prop := fun i H2 => ∃ kvs, dcFold (dcOne asg ft fk fe F (wipeE ρ (own.map (·.2)))) (.dic k []) (ds.take i) = some (.dic k kvs) ∧ RepB X.mg (fun b => P b ∧ b ≠ Dl) H2 (.dic k kvs) (.ref Dl) ∧ Chg (H2 Dl) ∧ ∀ b o, H1 b = some o → H2 b = some o
  refine it_gen (n := ds.length) (Pv := Pv) ?_ ?_ ?_ ?_
  · refine ⟨[], by simp [dcFold], ?_, ?_, fun b o e => ?_⟩
    · simp only [RepB]
      cases k
      · exact ⟨Dl, [], rfl, ⟨[], .inl upd_same, rfl⟩, by simp only [RepKV]⟩
      · exact ⟨Dl, [], rfl, ⟨[], .inl upd_same, rfl⟩, by simp only [RepKV]⟩
    · rw [upd_same]; cases k <;> trivial
    · rw [upd_ne (ne_of_none e hD)]; exact e
  · rintro i H2 hi ⟨kvs, _, _, _, h⟩
    exact wk.goes H2 i (kept H2 h) hi
  · rintro H2 ⟨kvs, hf, hr, hch, hkp⟩
    refine ⟨wk.stops H2 (kept H2 hkp), ?_⟩
    rw [List.take_length, e2] at hf
    cases hf
    refine kQ _ H2 (s1.trans hkp) ⟨?_, topNew_ref (s1.free hD), fun _ a ea => by cases ea; exact hch⟩
    simp only [RepB] at hr
    obtain ⟨a, ps, ea, h1, h2⟩ := hr
    cases ea
    simp only [Rep]
    exact ⟨Dl, ps, rfl, fr1 Dl hD, h1, h2.weak fun a z => z.1⟩
  · rintro i x H2 H3 hi ⟨kvs, hf, hr, hch, hkp⟩ yl
    obtain ⟨s3, d', hd, rd⟩ := wk.yields H2 i x H3 (kept H2 hkp) hi yl
    have e3 : ds.take (i + 1) = ds.take i ++ [d'] := by rw [List.take_add_one, hd]; rfl
    have e4 : ∃ z, dcFold (dcOne asg ft fk fe F (wipeE ρ (own.map (·.2)))) (.dic k []) (ds.take (i + 1)) = some z := by
      have := dcFold_app (dcOne asg ft fk fe F (wipeE ρ (own.map (·.2)))) (ds.take (i + 1)) (ds.drop (i + 1)) (.dic k [])
      rw [List.take_append_drop, e2] at this
      obtain ⟨z, hz, _⟩ := Option.bind_eq_some_iff.mp this.symm
      exact ⟨z, hz⟩
    obtain ⟨z, e4⟩ := e4
    have e4' := e4
    rw [e3, dcFold_app, hf] at e4
    simp only [Option.bind_some, dcFold] at e4
    obtain ⟨p, e6, e6'⟩ := Option.bind_eq_some_iff.mp e4
    obtain ⟨z', e6'', ez⟩ := Option.bind_eq_some_iff.mp e6'
    cases ez
    obtain ⟨ρ', e7, e8⟩ := Option.bind_eq_some_iff.mp e6
    obtain ⟨b, e9, e10⟩ := Option.bind_eq_some_iff.mp e8
    have all3 : ∀ b o, H1 b = some o → H3 b = some o := fun b o e => s3 b o (hkp b o e)
    have hD2 : H2 Dl ≠ none := fun z => by rw [z] at hch; exact hch
    have keepD : ∀ {H'}, Same H2 H' → Chg (H' Dl) ∧ H' Dl ≠ none := fun {H'} s => by
      cases ho : H2 Dl with
      | none => exact absurd ho hD2
      | some o => rw [s _ _ ho, ← ho]; exact ⟨hch, hD2⟩
    have fr3 : Fre (fun b => P b ∧ b ≠ Dl) H3 := fre_minus (fr1.same all3) (keepD s3).2
    have er3 : ER X.mg (fun b => P b ∧ b ≠ Dl) ks' H3 (L2.wipe σ (own.map (·.2))) (wipeE ρ (own.map (·.2))) := ER.wipe (er1.mono all3 fun a ha pa => ⟨pa, fun e => ha (e ▸ hD)⟩) hk
    refine ⟨_, _, _, d', rd, er3, e7, fun σ' er' hl' hj => ⟨wipe_eq hl' hj his, ?_⟩⟩
    refine ⟨_, ρ', b, fr3, er', e9, fun H4 s4 => ?_⟩
    have all4 : ∀ b o, H1 b = some o → H4 b = some o := fun b o e => s4 b o (all3 b o e)
    cases b with
    | false =>
      rw [if_neg Bool.false_ne_true] at e10
      refine iteF ?_
      cases e10
      cases e6''
      exact ⟨kvs, e4', (hr.same s3).same s4, (keepD (s3.trans s4)).1, all4⟩
    | true =>
      rw [if_pos rfl] at e10
      refine iteT ?_
      obtain ⟨y, e11, e12⟩ := Option.bind_eq_some_iff.mp e10
      obtain ⟨zz, e13, rfl⟩ := Option.map_eq_some_iff.mp e12
      refine ⟨_, ρ', y, fr3.same s4, er'.same s4, e11, fun v H5 s5 r5 => ?_⟩
      refine ⟨_, ρ', zz, (fr3.same s4).same s5, (er'.same s4).same s5, e13, fun w H6 s6 r6 => ?_⟩
      have s26 : Same H2 H6 := ((s3.trans s4).trans s5).trans s6
      obtain ⟨kvs', rfl⟩ := putD_dic e6''
      have r5' : RepB X.mg (fun b => P b ∧ b ≠ Dl) H6 y v := (r5.same s6).toB
      obtain ⟨_, uo, cu, hst, rr⟩ := putD_ok (mg := X.mg) (P := fun b => P b ∧ b ≠ Dl) (keepD s26).1 (fun z => z.2 rfl) (hr.same s26) r5' r6 e6''
      have fin : Pv (i + 1) (upd H6 Dl uo) := ⟨kvs', e4', rr, by rw [upd_same]; exact cu, fun b o e => by
        rw [upd_ne (ne_of_none e hD)]
        exact s6 b o (s5 b o (all4 b o e))⟩
      rcases hst with ⟨p, xs, n, m, z1, z2, z3, z4, z5⟩ | ⟨bb, H', z1, z2, z3⟩
      · exfalso
        cases z1
        have := (hr.same s26).dic
        obtain ⟨a2, ps2, ea2, hd2, _⟩ := this
        cases ea2
        cases k
        · obtain ⟨kk, rd2, _⟩ := hd2
          rcases rd2 with rd2 | ⟨o, rd2⟩ <;> rw [z3] at rd2 <;> cases rd2
        · obtain ⟨kk, rd2, _⟩ := hd2
          rcases rd2 with rd2 | ⟨o, rd2⟩ <;> rw [z3] at rd2 <;> cases rd2
      · cases z1
        exact ⟨H', z2, by rw [z3]; exact fin⟩
/-- straight into an own name -/
theorem evS_swMD {i : Nat} {x : Str} {e : Expr} {f : SE} {py : Pos} (hi : X.N[i]? = some x) (hl : X.env.scope.names.lookup x = some .local) (hk : kd ks i = .M) (hs : swapsWith e (some (.Name x py)) pos.line X.env = pure true) (he : EvMS X ks F e f) : EvS X ks F (.Assign [.Name x py] e pos) (sSetM i f) := by
  obtain ⟨t, ⟨_, p⟩, q⟩ := he.ex
  refine ⟨tAsg t (gName i), p i x py pos hi hl hs, fun Hb Pe P H σ ρ D r sr ev k => ?_⟩
  obtain ⟨d, e0, rfl⟩ := Option.map_eq_some_iff.mp ev
  refine q σ H P ρ _ d sr.fre sr.er e0 fun v H1 s1 ⟨r1, tn, un⟩ => ?_
  obtain ⟨P', sub, ext, fr', ft, _⟩ := new_fits sr hk s1 r1 tn un
  exact k P' _ H1 ((sr.shrink s1 sub ext fr').set ft) ((Frm.shrink s1 sub ext).trans (Frm.set (.inr hk)))
theorem EvM.toN {e : Expr} {f : SE} (h : EvM X ks F e f) : EvN X ks F e f :=
  let ⟨t, p, q⟩ := h.ex
  ⟨t, p, fun σ H P ρ Q d fr er ev k => q σ H P ρ Q d fr er ev fun v H' s r => k v H' s ⟨r.1, r.2.1⟩⟩
/-- {} -/
theorem evM_dnew (k : Bool) : EvM X ks F (.Dict [] [] pos) (cC (.dic k [])) := by
  cases k with
  | false =>
    refine ⟨_, pe_dnewK, fun σ H P ρ Q d fr er ev kQ => ?_⟩
    cases ev
    intro p hp
    refine kQ _ _ (same_new hp) ⟨?_, topNew_ref hp, fun _ a ea => by cases ea; rw [upd_same]; trivial⟩
    simp only [Rep]
    exact ⟨p, [], rfl, fr p hp, ⟨[], .inl upd_same, rfl⟩, by simp only [RepKV]⟩
  | true =>
    refine ⟨_, pe_dnewT, fun σ H P ρ Q d fr er ev kQ => ?_⟩
    cases ev
    intro p hp
    refine kQ _ _ (same_new hp) ⟨?_, topNew_ref hp, fun _ a ea => by cases ea; rw [upd_same]; trivial⟩
    simp only [Rep]
    exact ⟨p, [], rfl, fr p hp, ⟨[], .inl upd_same, rfl⟩, by simp only [RepKV]⟩
end
end RE
/-! RE13j: for over a dict's keys. -/
namespace RE
open PySem PySem.Spec PyProof.Rows L2
section
variable {X : Cx} {ks ks' : Ks} {F : Fn} {pos : Pos}
theorem evx_for {L : L2.St → Hp → Prop} {tg iter : Expr} {b : List Stmt} {fi : SL} {is : List Nat} {asg : SG} {body : SS} (hp : PassesOwn (model X.prog X.w) X.A X.env X.xe) (hc : X.calm = true) (dm : Dem ks ks') (hi : EvIx L X ks' F tg iter fi) (hg : EvG X ks' tg is asg) (ht : Touches asg is) (hF : ∀ j ∈ is, kd ks' j = .F) (hb : EvSs X ks' F b body)
    (hs : ∀ x, foldedSetIterable iter X.env x = pure x) : ∃ t : TS, PS X (.For tg iter b [] pos) t ∧ ∀ Hb Pe P H σ ρ D r, L σ H → SR X.mg Hb Pe P ks H σ ρ → sFor fi asg body F ρ = some r → Post X.mg Hb Pe P ks H σ ρ D r → t D σ H := by
  obtain ⟨wi, pi, qi⟩ := hi.ex
  obtain ⟨tb, pb, qb⟩ := hb.ex
  refine ⟨tFor wi (tG X.mg ks' is asg) tb, ps_for hp hc pi hg.can pb hs, fun Hb Pe P H σ ρ D r hL sr ev k => ?_⟩
  obtain ⟨ds, e1, e2⟩ := Option.bind_eq_some_iff.mp ev
  have sr' := sr.dem dm
  refine qi σ H hL P ρ _ ds sr'.fre sr'.er e1 fun J H1 src s1 wk tp => ?_
  have sr1 := sr'.same s1
  refine for_it (n := ds.length) (G := fun H2 => ∃ P2, (∀ a, H1 a ≠ none → P a → P2 a) ∧ Kept P2 src H1 H2) (Y := fun i H2 x H3 => ∀ P2, (∀ a, H1 a ≠ none → P a → P2 a) → Kept P2 src H1 H2 → Same H2 H3 ∧ ∃ d, ds[i]? = some d ∧ Rep P2 H3 d x)
    ⟨fun i H2 hi ⟨P2, h1, h2⟩ => (wk P2 h1).goes H2 i h2 hi, fun H2 ⟨P2, h1, h2⟩ => (wk P2 h1).stops H2 h2, fun i H2 x H3 hi _ y P2 h1 h2 => (wk P2 h1).yields H2 i x H3 h2 hi y⟩
    (fun i σ2 H2 => ∃ P2 ρ2, SR X.mg Hb Pe P2 ks' H2 σ2 ρ2 ∧ Frm ks' P H1 σ ρ P2 H2 σ2 ρ2 ∧ forD asg (body F) (ds.drop i) ρ2 = some r) ?_ ?_ ?_ ?_
  · exact ⟨P, ρ, sr1, Frm.refl, e2⟩
  · rintro i σ2 H2 hi ⟨P2, ρ2, sr2, fm, ev2⟩
    refine ⟨P2, fm.ext, fun b o eb hx => fm.objs b o eb ?_⟩
    rcases hx with z | z | z
    · exact .inl (.inl (fm.sub b z))
    · exact .inr z
    · exact .inl (tp b z)
  · rintro i x σ2 H2 H3 hi ⟨P2, ρ2, sr2, fm, ev2⟩ y
    obtain ⟨s3, d, ed, rd⟩ := y P2 fm.ext fun b o eb hx => fm.objs b o eb (by
      rcases hx with z | z | z
      · exact .inl (.inl (fm.sub b z))
      · exact .inr z
      · exact .inl (tp b z))
    have ed2 : ds.drop i = d :: ds.drop (i + 1) := by
      have hlt := (List.getElem?_eq_some_iff.mp ed).1
      rw [List.drop_eq_getElem_cons hlt]
      congr 1
      exact (List.getElem?_eq_some_iff.mp ed).2
    rw [ed2] at ev2
    obtain ⟨ρ3, e3, e4⟩ := Option.bind_eq_some_iff.mp ev2
    obtain ⟨r3, e5, e6⟩ := Option.bind_eq_some_iff.mp e4
    have sr3 := sr2.same s3
    refine ⟨P2, ρ2, ρ3, d, rd, sr3.er, e3, fun σ3 er3 hl hj => ?_⟩
    have sr4 := sr3.assign hF er3 hj (ht d ρ2 ρ3 e3).2
    have fm4 : Frm ks' P H1 σ ρ P2 H3 σ3 ρ3 := (fm.trans (Frm.of_same s3)).trans (Frm.assign hF hj (ht d ρ2 ρ3 e3).2)
    refine qb Hb Pe P2 H3 σ3 ρ3 _ r3 sr4 e5 ?_
    cases r3 with
    | nx ρ5 => exact fun P5 σ5 H5 sr5 fm5 => ⟨P5, ρ5, sr5, fm4.trans fm5, e6⟩
    | rt w v =>
      cases e6
      exact k
  · rintro σ2 H2 ⟨P2, ρ2, sr2, fm, ev2⟩
    rw [List.drop_length] at ev2
    cases ev2
    have fm' := (Frm.of_same (ks := ks') (P := P) (σ := σ) (ρ := ρ) s1).trans fm
    exact k P2 σ2 H2 (sr.undem dm fm' sr2) (Frm.undem dm fm')

theorem psOr {st : Stmt} {t u : TS} (h : PS X st t) (g : PS X st u) : PS X st (fun D σ H => t D σ H ∨ u D σ H) :=
  ⟨fun pins s σ H D I q => q.elim (fun z => h.run pins s σ H D I z) fun z => g.run pins s σ H D I z⟩
theorem same_lock {Hb H : Hp} {a : Addr} {u : HO} (s : Same Hb H) (od : Obj) : Same (upd Hb a (.frz od u)) (upd H a (.frz od u)) := fun b o e => by
  by_cases c : b = a
  · subst c; rw [upd_same] at e ⊢; exact e
  · rw [L2.upd_ne c] at e ⊢; exact s b o e
theorem evS_forD {tg : Expr} {b : List Stmt} {is : List Nat} {asg : SG} {body : SS} {i : Nat} {x : Str} {p : Pos} (hp : PassesOwn (model X.prog X.w) X.A X.env X.xe) (hc : X.calm = true)
    (hi : X.N[i]? = some x) (hv : Vis X.env.scope x) (hd : (x == ("__debug__" : Str)) = false) (hcd : (x == ("__classdict__" : Str)) = false) (hki : kd ks i = .F ∨ kd ks i = .B)
    (hg : EvG X ks tg is asg) (ht : Touches asg is) (hF : ∀ j ∈ is, kd ks j = .F) (hb : EvSs X ks F b body)
    (hs : ∀ y, foldedSetIterable (.Name x p) X.env y = pure y) : EvS X ks F (.For tg (.Name x p) b [] pos) (sFor (cKeys i) asg body) := by
  obtain ⟨t, pt, q⟩ := evx_for (pos := pos) hp hc Dem.refl (evIx_keys (F := F) (ks := ks) (tg := tg) (pos := p) hi hv hd hcd) hg ht hF hb hs
  refine ⟨_, psOr pt (ps_lock pt), fun Hb Pe P H σ ρ D r sr ev k => ?_⟩
  obtain ⟨ds, e1, ev1⟩ := Option.bind_eq_some_iff.mp ev
  obtain ⟨tt, kvs, e2, rfl⟩ := cKeys_some e1
  obtain ⟨v, e3, rk⟩ := sr.er.2 i _ e2
  obtain ⟨a, ps, rfl, hh, hkv⟩ := rk.toB.dic
  have cases2 : (∃ u, isDO u ∧ H a = some u) ∨ ∃ o u, isDO u ∧ H a = some (.frz o u) := by
    cases tt with
    | false =>
      obtain ⟨kk, rd, _⟩ := hh
      rcases rd with rd | ⟨o, rd⟩
      · exact .inl ⟨.dK kk, trivial, rd⟩
      · exact .inr ⟨o, .dK kk, trivial, rd⟩
    | true =>
      obtain ⟨kk, rd, _⟩ := hh
      rcases rd with rd | ⟨o, rd⟩
      · exact .inl ⟨.dT kk, trivial, rd⟩
      · exact .inr ⟨o, .dT kk, trivial, rd⟩
  rcases cases2 with ⟨u, hu, ha⟩ | ⟨o, u, hu, ha⟩
  · -- an own slot's thing stands elsewhere
    have apart : ∀ j d' a', (kd ks j = .M ∨ kd ks j = .L) → ρ[j]? = some (some d') → isMut d' = true → σ[j]? = some (some (.ref a')) → a' ≠ a := by
      intro j d' a' hj e m es z
      subst z
      obtain ⟨a2, y1, y2, y3, _⟩ := sr.own j d' hj e m
      rw [es] at y1; cases y1
      rcases hki with hk | hk
      · rw [hk] at rk
        simp only [RepK, Rep] at rk
        obtain ⟨a3, _, ea, pa, _⟩ := rk
        cases ea
        exact y3 pa
      · exact sr.bord i _ a' hk e2 rfl e3 y2
    refine .inr ⟨a, u, ha, hu.mut, fun od => ?_⟩
    have lk := lck_on ha hu od
    have hbn : ∀ {b}, upd Hb a (.frz od u) b = none → Hb b = none := fun {b} e => by
      by_cases c : b = a
      · subst c; rw [upd_same] at e; cases e
      · rwa [L2.upd_ne c] at e
    have srL : SR X.mg (upd Hb a (.frz od u)) Pe P ks (upd H a (.frz od u)) σ ρ := {
      freE := fun b e => sr.freE b (hbn e)
      sub := sr.sub
      fre := sr.fre.lck lk
      keep := same_lock sr.keep od
      er := sr.er.lck lk
      own := fun j d' hj e m => by
        obtain ⟨a', y1, y2, y3, y4⟩ := sr.own j d' hj e m
        have ne := apart j d' a' hj e m y1
        exact ⟨a', y1, by rw [L2.upd_ne ne]; exact y2, y3, fun z => by rw [L2.upd_ne ne]; exact y4 z⟩
      dist := sr.dist
      bord := fun j d' a' hj e m es z => sr.bord j d' a' hj e m es (hbn z)
      nofn := sr.nofn }
    refine q (upd Hb a (.frz od u)) Pe P _ σ ρ _ r ⟨a, od, u, e3, upd_same⟩ srL ev ?_
    cases r with
    | nx ρ' =>
      intro P' σ' H' sr' fm
      have ha' : H' a = some (.frz od u) := fm.objs a _ upd_same (.inr fun z => z)
      refine ⟨ha', ?_⟩
      have lo := lck_off ha' hu
      have hne : ∀ {b}, H b ≠ none → upd H a (.frz od u) b ≠ none := fun {b} h z => h (lk.free b z)
      refine k P' σ' _ ⟨sr.freE, sr'.sub, sr'.fre.lck lo, fun b o e => ?_, sr'.er.lck lo, fun j d' hj e m => ?_, sr'.dist, fun j d' a' hj e m es z => ?_, sr'.nofn⟩ ⟨fm.sub, fun b h pb => fm.ext b (hne h) pb, fm.slots, fun b o e hx => ?_, fun c h z => ?_⟩
      · by_cases c : b = a
        · subst c
          have := sr.keep b o e
          rw [ha] at this; cases this
          exact upd_same
        · rw [L2.upd_ne c]; exact sr'.keep b o (by rw [L2.upd_ne c]; exact e)
      · obtain ⟨a', y1, y2, y3, y4⟩ := sr'.own j d' hj e m
        refine ⟨a', y1, hbn y2, y3, fun z => ?_⟩
        by_cases c : a' = a
        · subst c
          rw [upd_same] at y2; cases y2
        · rw [L2.upd_ne c]; exact y4 z
      · have h1 := sr'.bord j d' a' hj e m es
        obtain ⟨g1, g2⟩ := fm.slots j (.inr hj)
        exact sr.bord j d' a' hj (by rw [← g2]; exact e) m (by rw [← g1]; exact es) z
      · by_cases c : b = a
        · subst c; rw [ha] at e; cases e; exact upd_same
        · rw [L2.upd_ne c]
          exact fm.objs b o (by rw [L2.upd_ne c]; exact e) hx
      · by_cases c2 : c = a
        · subst c2; rw [upd_same] at z; cases z
        · rw [L2.upd_ne c2] at z
          exact fm.there c (hne h) z
    | rt w d =>
      intro v H' s r1 r2
      have ha' : H' a = some (.frz od u) := s a _ upd_same
      refine ⟨ha', k v _ (fun b o e => ?_) (Rep.lck (lck_off ha' hu) d v r1) fun z => ?_⟩
      · by_cases c : b = a
        · subst c
          have := sr.keep b o e
          rw [ha] at this; cases this
          exact upd_same
        · rw [L2.upd_ne c]; exact s b o (by rw [L2.upd_ne c]; exact e)
      · have := r2 z
        cases d <;> simp only [TopNew] at this ⊢ <;> exact fun b eb => hbn (this b eb)
  · exact .inl (q Hb Pe P H σ ρ D r ⟨a, o, u, e3, ha⟩ sr ev k)
end
end RE
/-! RE13k: list(d). -/
namespace RE
open PySem PySem.Spec PyProof.Rows L2

theorem crOr {X : Cx} {f : Value} {r1 r2 : List V → Hp → VK → Prop} (h : CallR X f r1) (g : CallR X f r2) : CallR X f (fun xs H Q => r1 xs H Q ∨ r2 xs H Q) := by
  intro pins s σ H vs us Q I r q
  rcases q with q | q
  · exact h pins s σ H vs us Q I r q
  · exact g pins s σ H vs us Q I r q
/-- list(..) of a text -/
theorem call_list_strH {X : Cx} (hc : X.calm = true) : CallR X (.type "list") (fun xs H Q => ∃ z : Str, xs = [.str z] ∧ z.length ≤ sizeLine ∧ ∀ p, H p = none → Q (.ref p) (upd H p (.lst (z.cps.toList.map fun c => .str ⟨#[c]⟩)))) := by
  intro pins s σ H xs us Q I r h
  obtain ⟨z, rfl, hz, q⟩ := h
  obtain ⟨u, rfl, t, rfl⟩ := vals1 r
  refine call_list_str (I.ok.hd hc) z t (fun h' tk acc' c' hkeep hS hacc => ?_) hz
  refine ⟨.ref s.heap.objs.size, _, I.laid hkeep (Nat.le_refl _) (show ObjOk X.prog X.w _ _ _ (.lst (z.cps.toList.map fun c => V.str ⟨#[c]⟩)) from ⟨?_, acc'.toList, c', ?_, ?_⟩), rfl, q _ (I.hok.fresh (Nat.le_refl _))⟩
  · rw [List.length_map, Array.length_toList]; exact hz
  · have el : acc'.toList.length = acc'.size := by simp
    refine vals_of_at (by rw [List.length_map, el, hacc.1, Array.length_toList]) fun j x w h1 h2 => ?_
    obtain ⟨c, u, hc1, hc2⟩ := hacc.2 j w (by rw [← Array.getElem?_toList]; exact h2)
    rw [List.getElem?_map, Array.getElem?_toList, hc1] at h1
    cases h1
    exact ⟨u, hc2⟩
  · rw [Array.toArray_toList]; exact hS
/-- list(..) of a list, a tuple, a dict, a text -/
def listDD : D → Option D
  | .dic _ kvs => some (.lst (kvs.map (·.1)))
  | .str z => if fits z.length then some (.lst (z.cps.toList.map fun c => .str ⟨#[c]⟩)) else none
  | d => listD d
def rList (K : PySem.W.Frag) : List V → Hp → VK → Prop := fun xs H Q => (∃ p ys, xs = [.ref p] ∧ (SqL K H p ys ∨ SqT K H p ys) ∧ ∀ l, H l = none → Q (.ref l) (upd H l (.lst ys))) ∨
  ((∃ (a : Addr) (kvs : List (Key × V)), xs = [.ref a] ∧ Rd H a (.dK kvs) ∧ ∀ p, H p = none → Q (.ref p) (upd H p (.lst (kvs.map fun kv => kV kv.1)))) ∨
  ((∃ d kvs, xs = [V.ref d] ∧ Rd H d (.dT kvs) ∧ ∀ p bs, H p = none → IsKeys H kvs bs → Q (.ref p) (upd H p (.lst (bs.map V.ref)))) ∨
  ∃ z : Str, xs = [.str z] ∧ z.length ≤ sizeLine ∧ ∀ p, H p = none → Q (.ref p) (upd H p (.lst (z.cps.toList.map fun c => .str ⟨#[c]⟩)))))
theorem cr_list {X : Cx} (hc : X.calm = true) : CallR X (.type "list") (rList X.K) := crOr call_list_of (crOr (call_listD hc) (crOr (call_list_dT hc) (call_list_strH hc)))
theorem repL_isKeys {P : Addr → Prop} {H : Hp} : ∀ {kvs : List (List Key × V)} {bs : List Addr}, IsKeys H kvs bs → RepL P H (kvs.map fun q => .tup (q.1.map keyD)) (bs.map V.ref)
  | _, _, .nil => by simp only [List.map_nil, RepL]
  | _, _, .cons h t => by
    simp only [List.map_cons, RepL]
    refine ⟨_, _, rfl, ?_, repL_isKeys t⟩
    simp only [Rep]
    exact ⟨_, _, rfl, h, repL_keys _⟩
theorem listDD_ok {mg K} : RcOk mg (rList K) (op1 listDD) := rc1 fun P H x d v Q fr rx e k => by
  cases x with
  | dic t kvs =>
    simp only [listDD] at e
    cases e
    obtain ⟨a, ps, rfl, hh, hkv⟩ := rx.dic
    have hkeys := hkv.keys
    cases t with
    | false =>
      obtain ⟨kk, rd, rfl⟩ := hh
      refine .inr (.inl ⟨a, kk, rfl, rd, fun p hp => k _ _ (same_new hp) (rep_newL fr hp ?_) (topNew_ref hp)⟩)
      rw [hkeys, List.map_map]
      have := repL_keys (P := P) (H := H) (kk.map (·.1))
      rw [List.map_map, List.map_map] at this
      exact this
    | true =>
      obtain ⟨kk, rd, rfl⟩ := hh
      refine .inr (.inr (.inl ⟨a, kk, rfl, rd, fun p bs hp hb => k _ _ (same_new hp) (rep_newL fr hp ?_) (topNew_ref hp)⟩))
      rw [hkeys, List.map_map]
      exact repL_isKeys hb
  | str z =>
    simp only [listDD] at e
    split at e
    · rename_i hz
      cases e
      have rx : ∃ t, v = .str z := ⟨0, by simpa only [RepB, Rep] using rx⟩
      obtain ⟨_, rfl⟩ := rx
      exact .inr (.inr (.inr ⟨z, rfl, of_decide_eq_true hz, fun p hp => k _ _ (same_new hp) (rep_newL fr hp (RepL.chars _)) (topNew_ref hp)⟩))
    · cases e
  | lst xs =>
    have e : listD (.lst xs) = some d := e
    exact .inl (listD_ok (mg := mg) (K := K) P H [.lst xs] d [v] Q fr ⟨v, [], rfl, rx, rfl⟩ e k)
  | tup xs =>
    have e : listD (.tup xs) = some d := e
    exact .inl (listD_ok (mg := mg) (K := K) P H [.tup xs] d [v] Q fr ⟨v, [], rfl, rx, rfl⟩ e k)
  | _ => cases e
end RE
/-! RE13l: dict(a list of pairs): keys alone or tuples. -/
namespace RE
open PySem PySem.Spec PyProof.Rows L2

def mergeT (kvs more : List (List Key × V)) : List (List Key × V) := more.foldl (fun acc kv => putK acc kv.1 kv.2) kvs
theorem length_mergeT : ∀ (more kvs : List (List Key × V)), (mergeT kvs more).length ≤ kvs.length + more.length
  | [], kvs => by show kvs.length ≤ kvs.length + 0; omega
  | p :: r, kvs => by
    have h1 := length_mergeT r (putK kvs p.1 p.2)
    have h2 := length_putK kvs p.1 p.2
    show (mergeT (putK kvs p.1 p.2) r).length ≤ _
    rw [List.length_cons]; omega
/-- a pair's own place, with what stands in it: its key's place b, key ks, value v -/
def PairT (K : PySem.W.Frag) (H : Hp) (p : Addr) (z : (List Key × V) × Addr) : Prop := SqT K H p [.ref z.2, z.1.2] ∧ H z.2 = some (.tup (z.1.1.map kV))
section
variable {X : Cx}
theorem pairsT_of {pins : List (Addr × Obj)} {σ : L2.St} {H : Hp} {s : Shared} (I : Inv X pins σ H s) : ∀ {ps : List Addr} {zs : List ((List Key × V) × Addr)}, Paired (PairT X.K H) ps zs →
    ∃ prs : List (List Key × Addr × Value), KT H (zs.map (·.1)) prs ∧ prs.length = ps.length ∧ (∀ q ∈ prs, H q.2.1 = some (.tup (q.1.map kV))) ∧ ∀ (j : Nat) (q : List Key × Addr × Value), prs[j]? = some q → ∃ (b : Addr), ps[j]? = some b ∧ IsTup s.heap b #[.ref q.2.1, q.2.2]
  | _, _, .nil => ⟨[], .nil, rfl, fun _ h => (nomatch h), fun j q e => by simp at e⟩
  | _, _, .cons (a := p) (b := z) h t => by
    obtain ⟨prs, r, hl, hk, hp⟩ := pairsT_of I t
    obtain ⟨its, rv, ht, _⟩ := I.tuple h.1
    obtain ⟨u, y, ei, ru, ry⟩ := vals2 rv
    subst ei
    cases (show u = Value.ref z.2 from ru)
    refine ⟨(z.1.1, z.2, y) :: prs, .cons ⟨rfl, h.2, ry⟩ r, by rw [List.length_cons, List.length_cons, hl], fun q hq => ?_, fun j q e => ?_⟩
    · rcases List.mem_cons.mp hq with rfl | hq
      · exact h.2
      · exact hk q hq
    · cases j with
      | zero =>
        have e' : (z.1.1, z.2, y) = q := Option.some.inj e
        subst e'
        exact ⟨p, rfl, ht⟩
      | succ j =>
        obtain ⟨b, e1, e2⟩ := hp j q (by simpa using e)
        exact ⟨b, by simpa using e1, e2⟩
theorem KT.merge {H : Hp} : ∀ {more : List (List Key × V)} {rs : List (List Key × Addr × Value)} {kvs : List (List Key × V)} {vs : List (List Key × Addr × Value)}, KT H more rs → KT H kvs vs → KT H (mergeT kvs more) (storedAllH vs rs) := by
  intro more rs kvs vs r
  unfold KT at r
  induction r generalizing kvs vs with
  | nil => intro q; exact q
  | @cons p q ps qs h t ih =>
    intro g
    obtain ⟨e1, e2, e3⟩ := h
    show KT H (mergeT (putK kvs p.1 p.2) ps) (storedAllH (storedH vs q.1 q.2.1 q.2.2) qs)
    rw [← e1]
    exact ih (g.put p.1 e2 e3)
def rDictT (K : PySem.W.Frag) : List V → Hp → VK → Prop := fun xs H Q => ∃ (a : Addr) (ps : List Addr) (zs : List ((List Key × V) × Addr)), xs = [.ref a] ∧ SqL K H a (ps.map V.ref) ∧ Paired (PairT K H) ps zs ∧
    ∀ p, H p = none → Q (.ref p) (upd H p (.dT (mergeT [] (zs.map (·.1)))))
theorem cr_dictT (hcalm : X.calm = true) (hu : X.A.units + 128 < cLine) : CallR X (.type "dict") (rDictT X.K) := by
  intro pins s σ H xs us Q I r q
  obtain ⟨a, ps, zs, ex, hq, hp, q⟩ := q
  subst ex
  obtain ⟨u, eu, rx⟩ := vals1 r
  subst eu
  cases rx
  obtain ⟨its, rv, pl, hz⟩ := I.list hq
  have ei := refs_at rv
  subst ei
  rw [List.length_map] at hz
  obtain ⟨prs, rel, hl, hk, hpr⟩ := pairsT_of I hp
  obtain ⟨o, n, ho, hc, hd, hdat⟩ := pl
  have P := PairArg.list (prog := X.prog) (w := X.w) a (ps.map Value.ref).toArray (fun j => ps.getD j 0) (prs.map fun q => (Value.ref q.2.1, q.2.2))
  have hlen : (prs.map fun q => (Value.ref q.2.1, q.2.2)).length = prs.length := List.length_map _
  refine call_dict_pairsH (knd := tupleKind (mixKind X.prog X.w)) (ps := prs) P (I.ok.hd hcalm) ?_ ⟨⟨o, n, ho, hc, hd, hdat⟩, ?_, fun j k v e => ?_⟩ ⟨hlen.symm, fun i key v e => ?_⟩ (fun h' hk' x hx => ?_) (by rw [hlen, hl]; exact hz) fun h' tk hd' kp => ?_
  · show (X.A.in1.in1).units < cLine
    have e1 : (X.A.in1.in1).units ≤ X.A.units + 2 := Nat.le_refl _
    omega
  · simp [hl]
  · rw [List.getElem?_map] at e
    obtain ⟨q', e1, e2⟩ := Option.map_eq_some_iff.mp e
    obtain ⟨b, e3, e4⟩ := hpr j q' e1
    cases e2
    have e5 : ps.getD j 0 = b := by rw [List.getD_eq_getElem?_getD, e3]; rfl
    refine ⟨by simp [e3, e5], ?_⟩
    show PairAt _ (ps.getD j 0) _ _
    rw [e5]
    exact .inl e4
  · have e : (prs.map fun q => (Value.ref q.2.1, q.2.2))[i]? = some (key, v) := e
    rw [List.getElem?_map] at e
    obtain ⟨q', e1, e2⟩ := Option.map_eq_some_iff.mp e
    cases e2
    exact ⟨q'.1, q'.2.1, e1, rfl⟩
  · obtain ⟨o', its', n', g1, g2, g3, g4⟩ := key_of I.hok (hk x hx)
    exact ⟨o', its', n', hk' _ _ (Nat.ne_of_lt (Heap.lt_size g1)) (by simp) g1, g2, g3, g4⟩
  · have hm : (s.heap.objs.size == sysModules) = false := beq_eq_false_iff_ne.mpr (Nat.ne_of_gt I.big)
    have hlen2 : (mergeT [] (zs.map (·.1))).length ≤ sizeLine := by
      refine Nat.le_trans (length_mergeT _ []) ?_
      rw [List.length_nil, Nat.zero_add, Paired.length rel, hl]
      exact hz
    have nD : H s.heap.objs.size = none := I.hok.fresh (Nat.le_refl _)
    obtain ⟨q', es, ep, hq', h2, h3, h4, _, h5⟩ := hd'
    have rel2 : KT H (mergeT [] (zs.map (·.1))) (storedAllH [] prs) := KT.merge rel .nil
    refine ⟨.ref s.heap.objs.size, upd H s.heap.objs.size (.dT (mergeT [] (zs.map (·.1)))), I.laid (t' := tk) (fun b o e => kp b o (by simp) e) (Nat.le_refl _) (show ObjOk X.prog X.w _ _ _ (.dT (mergeT [] (zs.map (·.1)))) from ⟨hlen2, hm, _, rel2.keeps fun b ys e => ?_, q', es, ep, hq', h2, h3, h4, h5⟩), rfl, q _ nD⟩
    rw [upd_ne (fun z => by rw [z, nD] at e; cases e)]
    exact e
end
/-! ### the function of trees -/
def dAll (t : Bool) : List (D × D) → List D → Option (List (D × D))
  | acc, [] => some acc
  | acc, .tup [k, v] :: xs => (dput t acc k v).bind fun acc' => dAll t acc' xs
  | _, _ => none
def isKP : D → Bool
  | .tup [k, _] => (keyA k).isSome
  | _ => false
def dictD : D → Option D
  | .lst [] => some (.dic true [])
  | .lst (x :: xs) => if isKP x then (dAll false [] (x :: xs)).map (.dic false) else (dAll true [] (x :: xs)).map (.dic true)
  | _ => none
def rDict (K : PySem.W.Frag) : List V → Hp → VK → Prop := fun xs H Q => (∃ (a : Addr) (ps : List Addr) (kvs : List (Key × V)), xs = [.ref a] ∧ SqL K H a (ps.map V.ref) ∧ Paired (fun p kv => SqT K H p [kV kv.1, kv.2]) ps kvs ∧
    ∀ p, H p = none → Q (.ref p) (upd H p (.dK (mergeK [] kvs)))) ∨ rDictT K xs H Q
theorem cr_dict {X : Cx} (hc : X.calm = true) (hu : X.A.units + 128 < cLine) : CallR X (.type "dict") (rDict X.K) := crOr (call_dictP hc) (cr_dictT hc hu)
theorem dAll_K {K : PySem.W.Frag} {P : Addr → Prop} {H : Hp} : ∀ {xs : List D} {vs : List V} {acc res : List (D × D)} {kvs : List (Key × V)}, RepL P H xs vs → dAll false acc xs = some res → RepKV P H acc (kvs.map fun z => (keyD z.1, z.2)) →
    ∃ (ps : List Addr) (more : List (Key × V)), vs = ps.map V.ref ∧ Paired (fun p kv => SqT K H p [kV kv.1, kv.2]) ps more ∧ RepKV P H res ((mergeK kvs more).map fun z => (keyD z.1, z.2))
  | [], vs, acc, res, kvs, r, e, g => by
    simp only [RepL] at r
    subst r
    cases e
    exact ⟨[], [], rfl, .nil, g⟩
  | .tup [k, v] :: xs, vs, acc, res, kvs, r, e, g => by
    simp only [RepL] at r
    obtain ⟨w, ws, rfl, r1, r2⟩ := r
    simp only [dAll] at e
    obtain ⟨acc', e1, e2⟩ := Option.bind_eq_some_iff.mp e
    simp only [Rep, RepL] at r1
    obtain ⟨p, us, rfl, hp, u1, us1, e3, r3, u2, us2, e4, r4, e5⟩ := r1
    subst e5 e4 e3
    unfold dput at e1
    simp only at e1
    obtain ⟨q, e6, e7⟩ := Option.map_eq_some_iff.mp e1
    have ek := keyA_some e6
    subst ek
    have eu := rep_key e6 r3
    subst eu
    have g' := kv_put keyA keyD keyA_keyD q r4 g
    rw [e7] at g'
    obtain ⟨ps, more, rfl, h1, h2⟩ := dAll_K (K := K) (kvs := putK kvs q u2) r2 e2 g'
    exact ⟨p :: ps, (q, u2) :: more, rfl, .cons (SqT.of hp) h1, h2⟩
  | .non :: _, _, _, _, _, _, e, _ => by cases e
  | .bl _ :: _, _, _, _, _, _, e, _ => by cases e
  | .int _ :: _, _, _, _, _, _, e, _ => by cases e
  | .str _ :: _, _, _, _, _, _, e, _ => by cases e
  | .lst _ :: _, _, _, _, _, _, e, _ => by cases e
  | .dic _ _ :: _, _, _, _, _, _, e, _ => by cases e
  | .scr _ :: _, _, _, _, _, _, e, _ => by cases e
  | .fn _ :: _, _, _, _, _, _, e, _ => by cases e
  | .tup [] :: _, _, _, _, _, _, e, _ => by cases e
  | .tup [_] :: _, _, _, _, _, _, e, _ => by cases e
  | .tup (_ :: _ :: _ :: _) :: _, _, _, _, _, _, e, _ => by cases e
theorem dAll_T {K : PySem.W.Frag} {P : Addr → Prop} {H : Hp} : ∀ {xs : List D} {vs : List V} {acc res : List (D × D)} {kvs : List (List Key × V)}, RepL P H xs vs → dAll true acc xs = some res → RepKV P H acc (kvs.map fun z => (.tup (z.1.map keyD), z.2)) →
    ∃ (ps : List Addr) (zs : List ((List Key × V) × Addr)), vs = ps.map V.ref ∧ Paired (PairT K H) ps zs ∧ RepKV P H res ((mergeT kvs (zs.map (·.1))).map fun z => (.tup (z.1.map keyD), z.2))
  | [], vs, acc, res, kvs, r, e, g => by
    simp only [RepL] at r
    subst r
    cases e
    exact ⟨[], [], rfl, .nil, g⟩
  | .tup [k, v] :: xs, vs, acc, res, kvs, r, e, g => by
    simp only [RepL] at r
    obtain ⟨w, ws, rfl, r1, r2⟩ := r
    simp only [dAll] at e
    obtain ⟨acc', e1, e2⟩ := Option.bind_eq_some_iff.mp e
    simp only [Rep, RepL] at r1
    obtain ⟨p, us, rfl, hp, u1, us1, e3, r3, u2, us2, e4, r4, e5⟩ := r1
    subst e5 e4 e3
    unfold dput at e1
    simp only at e1
    obtain ⟨q, e6, e7⟩ := Option.map_eq_some_iff.mp e1
    have ek := keyT_some e6
    subst ek
    simp only [Rep] at r3
    obtain ⟨b, vs3, rfl, hb, r5⟩ := r3
    have := r5.keys
    subst this
    have g' := kv_put keyT (fun ks => .tup (ks.map keyD)) (fun ks => keysA_map ks) q r4 g
    rw [e7] at g'
    obtain ⟨ps, zs, rfl, h1, h2⟩ := dAll_T (K := K) (kvs := putK kvs q u2) r2 e2 g'
    exact ⟨p :: ps, ((q, u2), b) :: zs, rfl, .cons ⟨SqT.of hp, hb⟩ h1, h2⟩
  | .non :: _, _, _, _, _, _, e, _ => by cases e
  | .bl _ :: _, _, _, _, _, _, e, _ => by cases e
  | .int _ :: _, _, _, _, _, _, e, _ => by cases e
  | .str _ :: _, _, _, _, _, _, e, _ => by cases e
  | .lst _ :: _, _, _, _, _, _, e, _ => by cases e
  | .dic _ _ :: _, _, _, _, _, _, e, _ => by cases e
  | .scr _ :: _, _, _, _, _, _, e, _ => by cases e
  | .fn _ :: _, _, _, _, _, _, e, _ => by cases e
  | .tup [] :: _, _, _, _, _, _, e, _ => by cases e
  | .tup [_] :: _, _, _, _, _, _, e, _ => by cases e
  | .tup (_ :: _ :: _ :: _) :: _, _, _, _, _, _, e, _ => by cases e
theorem rep_newD {P : Addr → Prop} {H : Hp} {t : Bool} {p : Addr} {kvs : List (D × D)} {ps : List (D × V)} {o : HO} (fr : Fre P H) (hp : H p = none) (h : RepKV P H kvs ps) (hh : HD t (upd H p o) p ps) : Rep P (upd H p o) (.dic t kvs) (.ref p) := by
  simp only [Rep]
  exact ⟨p, ps, rfl, fr p hp, hh, h.same (same_new hp)⟩
theorem dictD_ok {mg K} : RcOk mg (rDict K) (op1 dictD) := rc1 fun P H x d v Q fr rx e k => by
  have caseT : ∀ (xs : List D) (kvs : List (D × D)) (vs : List V) (a : Addr), v = .ref a → H a = some (.lst vs) → RepL P H xs vs → dAll true [] xs = some kvs → d = .dic true kvs → rDictT K [v] H Q := by
    rintro xs kvs vs a rfl ha hv e1 rfl
    obtain ⟨ps, zs, rfl, h1, h2⟩ := dAll_T (K := K) (kvs := []) hv e1 (by simp [RepKV])
    refine ⟨a, ps, zs, rfl, SqL.of ha, h1, fun p hp => k _ _ (same_new hp) (rep_newD fr hp h2 ⟨_, .inl (upd_same), rfl⟩) (topNew_ref hp)⟩
  cases x with
  | lst xs =>
    simp only [RepB] at rx
    obtain ⟨a, vs, rfl, ha, hv⟩ := rx
    match xs, e with
    | [], e =>
      have e := Option.some.inj (show some (D.dic true []) = some d from e)
      exact .inr (caseT [] [] vs a rfl ha hv rfl e.symm)
    | x :: xs, e =>
      simp only [dictD] at e
      split at e
      · obtain ⟨kvs, e1, e2⟩ := Option.map_eq_some_iff.mp e
        subst e2
        obtain ⟨ps, more, rfl, h1, h2⟩ := dAll_K (K := K) (kvs := []) hv e1 (by simp [RepKV])
        exact .inl ⟨a, ps, more, rfl, SqL.of ha, h1, fun p hp => k _ _ (same_new hp) (rep_newD fr hp h2 ⟨_, .inl (upd_same), rfl⟩) (topNew_ref hp)⟩
      · obtain ⟨kvs, e1, e2⟩ := Option.map_eq_some_iff.mp e
        exact .inr (caseT (x :: xs) kvs vs a rfl ha hv e1 e2.symm)
  | _ => cases e
end RE
/-! RE13m: dict comprehensions over d.items(), d.update(e). -/
namespace RE
open PySem PySem.Spec PyProof.Rows L2

/-! ### d.items() -/
/-- the rows (key, value) of the dict in slot i -/
def cItems (i : Nat) : SL := fun _ ρ => match ρ[i]? with
  | some (some (.dic false kvs)) => some (kvs.map fun kv => .tup [kv.1, kv.2])
  | _ => none
theorem cItems_some {i : Nat} {F : Fn} {ρ : RE.Env} {ds : List D} (h : cItems i F ρ = some ds) : ∃ kvs, ρ[i]? = some (some (.dic false kvs)) ∧ ds = kvs.map fun kv => .tup [kv.1, kv.2] := by
  unfold cItems at h
  split at h
  · rename_i kvs e
    cases h
    exact ⟨kvs, e, rfl⟩
  · cases h
theorem RepKV.at {P : Addr → Prop} {H : Hp} : ∀ {kvs : List (D × D)} {kk : List (Key × V)} {i : Nat} {k : Key} {v : V}, RepKV P H kvs (kk.map fun q => (keyD q.1, q.2)) → kk[i]? = some (k, v) → ∃ d, kvs[i]? = some (keyD k, d) ∧ Rep P H d v
  | [], kk, i, k, v, h, e => by
    unfold RepKV at h
    rw [List.map_eq_nil_iff.mp h] at e
    cases e
  | (q, d) :: kvs, kk, i, k, v, h, e => by
    unfold RepKV at h
    obtain ⟨w, r, e1, h1, h2⟩ := h
    cases kk with
    | nil => cases e1
    | cons z kk =>
      rw [List.map_cons] at e1
      injection e1 with e2 e3
      subst e3
      injection e2 with e4 e5
      cases i with
      | zero =>
        rw [List.getElem?_cons_zero] at e
        cases e
        have e5 : v = w := e5
        have e4 : keyD k = q := e4
        subst e5 e4
        exact ⟨d, rfl, h1⟩
      | succ i =>
        rw [List.getElem?_cons_succ] at e
        obtain ⟨d', g1, g2⟩ := RepKV.at h2 e
        exact ⟨d', by rw [List.getElem?_cons_succ]; exact g1, g2⟩
theorem evIx_items {X : Cx} {ks : Ks} {F : Fn} {elts : List Expr} {kk : Nat} {tpos pos apos cpos : Pos} {i : Nat} {x : Str} (hN : X.N[i]? = some x) (hv : Vis X.env.scope x) (hd : (x == ("__debug__" : Str)) = false) (hcd : (x == ("__classdict__" : Str)) = false)
    (hline : (apos.endLine == cpos.line) = true) :
    EvIx (LockAt i) X ks F (.Tuple elts kk tpos) (.Call (.Attribute (.Name x pos) "items" apos) [] [] cpos) (cItems i) := by
  refine ⟨_, pi_items (pe_var hN hv hd hcd) rfl hline, fun σ H hL P ρ R ds fr er ev k => ?_⟩
  obtain ⟨kvs, e1, rfl⟩ := cItems_some ev
  obtain ⟨v, e2, r⟩ := er.2 i _ e1
  obtain ⟨a, o, u, e3, ha⟩ := hL
  rw [e2] at e3; cases e3
  obtain ⟨b, ps, eb, hh, hkv⟩ := r.toB.dic
  cases eb
  obtain ⟨kk, rd, rfl⟩ := hh
  rcases rd with rd | ⟨o', rd⟩
  · rw [ha] at rd; cases rd
  · rw [ha] at rd; cases rd
    have hlen : kk.length = kvs.length := by have := hkv.len; rw [List.length_map] at this; exact this
    refine ⟨.ref a, e2, a, o, kk, rfl, ha, k _ H [] (Same.refl H) (fun P2 hp2 => ⟨by simp, fun H2 j kp hj => ?_, fun H2 kp => ?_, fun H2 j x H3 kp hj y => ?_⟩) (by simp)⟩
    · refine ⟨kp _ _ ha (.inr (.inl fun z => z)), ?_⟩
      rw [List.length_map] at hj
      omega
    · refine ⟨kp _ _ ha (.inr (.inl fun z => z)), ?_⟩
      rw [List.length_map]
      omega
    · obtain ⟨T, q, w, e4, rfl, hT, rfl⟩ := y
      obtain ⟨d, g1, g2⟩ := RepKV.at hkv e4
      have g3 : Rep P2 H2 d w := (Rep.mono (Same.refl _) hp2 d w g2).kept kp
      refine ⟨same_new hT, .tup [keyD q, d], ?_, ?_⟩
      · rw [List.getElem?_map, g1]; rfl
      · simp only [Rep]
        refine ⟨T, _, rfl, upd_same, ?_⟩
        simp only [RepL]
        exact ⟨_, _, rfl, rep_keyV q, _, _, rfl, g3.same (same_new hT), rfl⟩
theorem evx_dc (k : Bool) {L : L2.St → Hp → Prop} {X : Cx} {ks ks' : Ks} {F : Fn} {kx vx tg iter : Expr} {ifs : List Expr} {scope : Scope} {own : List (Str × Nat)} {pos : Pos} {fi : SL} {is : List Nat} {asg : SG} {ft : SB} {fk fe : SE} (hu : X.A.units + 1 < cLine) (hc : X.calm = true) (hN : X.N.Nodup)
    (hi : EvIx L X ks F tg iter fi) (ok : BlkOk X.N X.env.scope scope own) (his : ∀ j ∈ is, j ∈ own.map (·.2)) (hk : ∀ i, i ∉ own.map (·.2) → kd ks' i = kd ks i)
    (hg : ∀ (s : Shared) (H : Hp) (C : Addr) (cl : List (Str × Addr)) (fp : List Addr), EvG (X.blk s H scope (compEnvC scope cl C X.env) fp) ks' tg is asg)
    (ht : ∀ (s : Shared) (H : Hp) (C : Addr) (cl : List (Str × Addr)) (fp : List Addr), EvTs (X.blk s H scope (compEnvC scope cl C X.env) fp) ks' F ifs ft)
    (hx : ∀ (s : Shared) (H : Hp) (C : Addr) (cl : List (Str × Addr)) (fp : List Addr), EvE (X.blk s H scope (compEnvC scope cl C X.env) fp) ks' F kx fk)
    (he : ∀ (s : Shared) (H : Hp) (C : Addr) (cl : List (Str × Addr)) (fp : List Addr), EvE (X.blk s H scope (compEnvC scope cl C X.env) fp) ks' F vx fe)
    (hs : ∀ x, foldedSetIterable iter X.env x = pure x) : ∃ t : TE, PE X (.DictComp kx vx [⟨tg, iter, ifs, 0⟩] scope pos) t ∧ ∀ σ H, L σ H → Cn X.mg H ks F (cDc k (own.map (·.2)) fi asg ft fk fe) σ (fun P d v H' => Rep P H' d v ∧ TopNew H d v ∧ ∀ a, v = .ref a → Chg (H' a)) t := by
  obtain ⟨wi, pi, q⟩ := hi.ex
  refine ⟨_, pe_dg k hu (g := tG X.mg ks' is asg) (tt := tT X.mg ks' F ft) (tk := tE X.mg ks' F fk) (tv := tE X.mg ks' F fe) hc hN pi ok (fun s H C cl fp => (hg s H C cl fp).can) (fun s H C cl fp => (ht s H C cl fp).can) (fun s H C cl fp => (hx s H C cl fp).can) (fun s H C cl fp => (he s H C cl fp).can) hs, fun σ H hL P ρ Q d fr er ev kQ => ?_⟩
  obtain ⟨ds, e1, e2⟩ := Option.bind_eq_some_iff.mp ev
  refine q σ H hL P ρ _ ds fr er e1 fun J H1 src s1 wk top Dl hD => ?_
  have fr1 := fr.same s1
  have er1 := er.same s1
  have wk := wk (fun b => P b ∧ b ≠ Dl) fun a ha pa => ⟨pa, fun e => ha (e ▸ hD)⟩
  have kept : ∀ H2, (∀ b o, H1 b = some o → H2 b = some o) → Kept (fun b => P b ∧ b ≠ Dl) src H1 H2 := fun H2 h b o e _ => h b o e
  let Pv : Nat → Hp → Prop := fun i H2 => ∃ kvs, dcFold (dcOne asg ft fk fe F (wipeE ρ (own.map (·.2)))) (.dic k []) (ds.take i) = some (.dic k kvs) ∧ RepB X.mg (fun b => P b ∧ b ≠ Dl) H2 (.dic k kvs) (.ref Dl) ∧ Chg (H2 Dl) ∧ ∀ b o, H1 b = some o → H2 b = some o
  refine it_gen (n := ds.length) (Pv := Pv) ?_ ?_ ?_ ?_
  · refine ⟨[], by simp [dcFold], ?_, ?_, fun b o e => ?_⟩
    · simp only [RepB]
      cases k
      · exact ⟨Dl, [], rfl, ⟨[], .inl upd_same, rfl⟩, by simp only [RepKV]⟩
      · exact ⟨Dl, [], rfl, ⟨[], .inl upd_same, rfl⟩, by simp only [RepKV]⟩
    · rw [upd_same]; cases k <;> trivial
    · rw [upd_ne (ne_of_none e hD)]; exact e
  · rintro i H2 hi ⟨kvs, _, _, _, h⟩
    exact wk.goes H2 i (kept H2 h) hi
  · rintro H2 ⟨kvs, hf, hr, hch, hkp⟩
    refine ⟨wk.stops H2 (kept H2 hkp), ?_⟩
    rw [List.take_length, e2] at hf
    cases hf
    refine kQ _ H2 (s1.trans hkp) ⟨?_, topNew_ref (s1.free hD), fun a ea => by cases ea; exact hch⟩
    simp only [RepB] at hr
    obtain ⟨a, ps, ea, h1, h2⟩ := hr
    cases ea
    simp only [Rep]
    exact ⟨Dl, ps, rfl, fr1 Dl hD, h1, h2.weak fun a z => z.1⟩
  · rintro i x H2 H3 hi ⟨kvs, hf, hr, hch, hkp⟩ yl
    obtain ⟨s3, d', hd, rd⟩ := wk.yields H2 i x H3 (kept H2 hkp) hi yl
    have e3 : ds.take (i + 1) = ds.take i ++ [d'] := by rw [List.take_add_one, hd]; rfl
    have e4 : ∃ z, dcFold (dcOne asg ft fk fe F (wipeE ρ (own.map (·.2)))) (.dic k []) (ds.take (i + 1)) = some z := by
      have := dcFold_app (dcOne asg ft fk fe F (wipeE ρ (own.map (·.2)))) (ds.take (i + 1)) (ds.drop (i + 1)) (.dic k [])
      rw [List.take_append_drop, e2] at this
      obtain ⟨z, hz, _⟩ := Option.bind_eq_some_iff.mp this.symm
      exact ⟨z, hz⟩
    obtain ⟨z, e4⟩ := e4
    have e4' := e4
    rw [e3, dcFold_app, hf] at e4
    simp only [Option.bind_some, dcFold] at e4
    obtain ⟨p, e6, e6'⟩ := Option.bind_eq_some_iff.mp e4
    obtain ⟨z', e6'', ez⟩ := Option.bind_eq_some_iff.mp e6'
    cases ez
    obtain ⟨ρ', e7, e8⟩ := Option.bind_eq_some_iff.mp e6
    obtain ⟨b, e9, e10⟩ := Option.bind_eq_some_iff.mp e8
    have all3 : ∀ b o, H1 b = some o → H3 b = some o := fun b o e => s3 b o (hkp b o e)
    have hD2 : H2 Dl ≠ none := fun z => by rw [z] at hch; exact hch
    have keepD : ∀ {H'}, Same H2 H' → Chg (H' Dl) ∧ H' Dl ≠ none := fun {H'} s => by
      cases ho : H2 Dl with
      | none => exact absurd ho hD2
      | some o => rw [s _ _ ho, ← ho]; exact ⟨hch, hD2⟩
    have fr3 : Fre (fun b => P b ∧ b ≠ Dl) H3 := fre_minus (fr1.same all3) (keepD s3).2
    have er3 : ER X.mg (fun b => P b ∧ b ≠ Dl) ks' H3 (L2.wipe σ (own.map (·.2))) (wipeE ρ (own.map (·.2))) := ER.wipe (er1.mono all3 fun a ha pa => ⟨pa, fun e => ha (e ▸ hD)⟩) hk
    refine ⟨_, _, _, d', rd, er3, e7, fun σ' er' hl' hj => ⟨wipe_eq hl' hj his, ?_⟩⟩
    refine ⟨_, ρ', b, fr3, er', e9, fun H4 s4 => ?_⟩
    have all4 : ∀ b o, H1 b = some o → H4 b = some o := fun b o e => s4 b o (all3 b o e)
    cases b with
    | false =>
      rw [if_neg Bool.false_ne_true] at e10
      refine iteF ?_
      cases e10
      cases e6''
      exact ⟨kvs, e4', (hr.same s3).same s4, (keepD (s3.trans s4)).1, all4⟩
    | true =>
      rw [if_pos rfl] at e10
      refine iteT ?_
      obtain ⟨y, e11, e12⟩ := Option.bind_eq_some_iff.mp e10
      obtain ⟨zz, e13, rfl⟩ := Option.map_eq_some_iff.mp e12
      refine ⟨_, ρ', y, fr3.same s4, er'.same s4, e11, fun v H5 s5 r5 => ?_⟩
      refine ⟨_, ρ', zz, (fr3.same s4).same s5, (er'.same s4).same s5, e13, fun w H6 s6 r6 => ?_⟩
      have s26 : Same H2 H6 := ((s3.trans s4).trans s5).trans s6
      obtain ⟨kvs', rfl⟩ := putD_dic e6''
      have r5' : RepB X.mg (fun b => P b ∧ b ≠ Dl) H6 y v := (r5.same s6).toB
      obtain ⟨_, uo, cu, hst, rr⟩ := putD_ok (mg := X.mg) (P := fun b => P b ∧ b ≠ Dl) (keepD s26).1 (fun z => z.2 rfl) (hr.same s26) r5' r6 e6''
      have fin : Pv (i + 1) (upd H6 Dl uo) := ⟨kvs', e4', rr, by rw [upd_same]; exact cu, fun b o e => by
        rw [upd_ne (ne_of_none e hD)]
        exact s6 b o (s5 b o (all4 b o e))⟩
      rcases hst with ⟨p, xs, n, m, z1, z2, z3, z4, z5⟩ | ⟨bb, H', z1, z2, z3⟩
      · exfalso
        cases z1
        have := (hr.same s26).dic
        obtain ⟨a2, ps2, ea2, hd2, _⟩ := this
        cases ea2
        cases k
        · obtain ⟨kk, rd2, _⟩ := hd2
          rcases rd2 with rd2 | ⟨o, rd2⟩ <;> rw [z3] at rd2 <;> cases rd2
        · obtain ⟨kk, rd2, _⟩ := hd2
          rcases rd2 with rd2 | ⟨o, rd2⟩ <;> rw [z3] at rd2 <;> cases rd2
      · cases z1
        exact ⟨H', z2, by rw [z3]; exact fin⟩
/-- {kx: vx for (..) in x.items() if ..} -/
theorem evM_dcI {X : Cx} {ks ks' : Ks} {F : Fn} {kx vx : Expr} {elts : List Expr} {kk : Nat} {tpos apos cpos : Pos} {ifs : List Expr} {scope : Scope} {own : List (Str × Nat)} {pos p : Pos} {i : Nat} {x : Str} {is : List Nat} {asg : SG} {ft : SB} {fk fe : SE} (k : Bool) (hu : X.A.units + 1 < cLine) (hc : X.calm = true) (hN : X.N.Nodup)
    (hi : X.N[i]? = some x) (hv : Vis X.env.scope x) (hd : (x == ("__debug__" : Str)) = false) (hcd : (x == ("__classdict__" : Str)) = false) (hline : (apos.endLine == cpos.line) = true) (ok : BlkOk X.N X.env.scope scope own) (his : ∀ j ∈ is, j ∈ own.map (·.2)) (hk : ∀ i, i ∉ own.map (·.2) → kd ks' i = kd ks i)
    (hg : ∀ (s : Shared) (H : Hp) (C : Addr) (cl : List (Str × Addr)) (fp : List Addr), EvG (X.blk s H scope (compEnvC scope cl C X.env) fp) ks' (.Tuple elts kk tpos) is asg)
    (ht : ∀ (s : Shared) (H : Hp) (C : Addr) (cl : List (Str × Addr)) (fp : List Addr), EvTs (X.blk s H scope (compEnvC scope cl C X.env) fp) ks' F ifs ft)
    (hx : ∀ (s : Shared) (H : Hp) (C : Addr) (cl : List (Str × Addr)) (fp : List Addr), EvE (X.blk s H scope (compEnvC scope cl C X.env) fp) ks' F kx fk)
    (he : ∀ (s : Shared) (H : Hp) (C : Addr) (cl : List (Str × Addr)) (fp : List Addr), EvE (X.blk s H scope (compEnvC scope cl C X.env) fp) ks' F vx fe) :
    EvM X ks F (.DictComp kx vx [⟨.Tuple elts kk tpos, .Call (.Attribute (.Name x p) "items" apos) [] [] cpos, ifs, 0⟩] scope pos) (cDc k (own.map (·.2)) (cItems i) asg ft fk fe) := by
  obtain ⟨t, pt, q⟩ := evx_dc k hu hc hN (evIx_items (F := F) (ks := ks) (elts := elts) (kk := kk) (tpos := tpos) (pos := p) hi hv hd hcd hline) ok his hk hg ht hx he (fun _ => rfl)
  refine ⟨_, peOr pt (pe_lock pt), fun σ H P ρ Q d fr er ev kq => ?_⟩
  obtain ⟨ds, e1, ev1⟩ := Option.bind_eq_some_iff.mp ev
  obtain ⟨kvs, e2, rfl⟩ := cItems_some e1
  obtain ⟨v, e3, r⟩ := er.2 i _ e2
  obtain ⟨a, ps, rfl, hh, hkv⟩ := r.toB.dic
  obtain ⟨kk, rd, _⟩ := hh
  rcases rd with rd | ⟨o, rd⟩
  · have hu : isDO (.dK kk) := trivial
    refine .inr ⟨a, .dK kk, rd, hu.mut, fun od => ?_⟩
    have lk := lck_on rd hu od
    refine q σ _ ⟨a, od, _, e3, upd_same⟩ P ρ _ d (fr.lck lk) (er.lck lk) ev fun w H' s ⟨r1, r2, r3⟩ => ?_
    have ha' := s a _ upd_same
    have lo := lck_off ha' hu
    refine ⟨ha', kq w _ (same_off rd s) ⟨Rep.lck lo d w r1, ?_, fun _ b eb => ?_⟩⟩
    · cases d <;> simp only [TopNew] at r2 ⊢ <;> exact fun b eb => lk.free b (r2 b eb)
    · have c := r3 b eb
      by_cases ba : b = a
      · subst ba; rw [upd_same]; trivial
      · rw [upd_ne ba]; exact c
  · exact .inl (q σ H ⟨a, o, _, e3, rd⟩ P ρ Q d fr er ev fun w H' s ⟨r1, r2, r3⟩ => kq w H' s ⟨r1, r2, fun _ => r3⟩)
end RE
/-! RE13n: d.update(e). -/
namespace RE
open PySem PySem.Spec PyProof.Rows L2

def tDUpd (td ty : TE) : TE := fun σ H Q => td σ H fun x H1 => ∃ a, x = .ref a ∧ IsD H1 a ∧ ty σ H1 fun y H2 => ∃ b kvs more, y = .ref b ∧ a ≠ b ∧ H2 a = some (.dK kvs) ∧ Rd H2 b (.dK more) ∧ kvs.length + more.length ≤ sizeLine ∧ Q .non (upd H2 a (.dK (mergeK kvs more)))
theorem pe_dupd {X : Cx} {o e : Expr} {apos cpos : Pos} {td ty : TE} (ho : PE X o td) (he : PE X e ty) (m : M1 X o "update" apos e cpos) : PE X (.Call (.Attribute o "update" apos) [e] [] cpos) (tDUpd td ty) := by
  refine ⟨fun pins s σ H Q I h => ?_⟩
  refine wpAny_Call_method m.base m.few m.line PySem.F.plainAttrs_dict PySem.F.slot_dict_update PySem.F.type_dict_update (thn (ho.run pins s σ H _ I h) fun u s1 ⟨x, H1, I1, rx, a, ex, d, q1⟩ => ?_)
  subst ex
  obtain rfl : u = Value.ref a := rx
  obtain ⟨t1, t2, _⟩ := isD_at I1 d
  refine ⟨t1, t2, ?_⟩
  rw [m.trees]
  refine Calls.callWith_builtin rfl (Calls.evalArgs_plain (Calls.spliced_cons (thn (he.run pins s1 σ H1 _ I1 q1) fun iv s2 ⟨y, H2, I2, ry, b, kvs, more, ey, ne, ea, eb, hl, q2⟩ => Calls.spliced_nil ?_)))
  subst ey
  obtain rfl : iv = Value.ref b := ry
  obtain ⟨z1, ya, va, ra, da⟩ := dk_of I2.hok ea
  obtain ⟨z2, yb, vb, rb, db⟩ := dk_rd I2.hok eb
  have lm := length_mergeK more kvs
  refine call_meetsIn PySem.F.slot_dict_update da.typeIs PySem.F.entry_dict_update (PySem.F.args_dict_update_2 _ _) (meets_dict_update (mixKind X.prog X.w) a b ne yb) ⟨va, vb, da, db, by rw [← ra.length, ← rb.length]; exact hl, fun h' d1 d2 hs => ⟨.non, upd H2 a (.dK (mergeK kvs more)), ?_, rfl, q2⟩⟩
  have he : ∃ q, h'.get? a = some q := let ⟨q, _, _, hq, _⟩ := d1; ⟨q, hq⟩
  exact d_write (t' := s2.toks) I2 (by rw [ea]; exact True.intro) hs he (dk_new (by omega) ya (KV.merge rb ra) d1)
def mergeD : List (D × D) → List (D × D) → Option (List (D × D))
  | acc, [] => some acc
  | acc, kv :: r => (dput false acc kv.1 kv.2).bind fun acc' => mergeD acc' r
def updD : D → D → Option D
  | .dic false kvs, .dic false more => if fits (kvs.length + more.length) then (mergeD kvs more).map (.dic false) else none
  | _, _ => none
theorem updD_some {x y d : D} (h : updD x y = some d) : ∃ kvs more kvs', x = .dic false kvs ∧ y = .dic false more ∧ kvs.length + more.length ≤ sizeLine ∧ mergeD kvs more = some kvs' ∧ d = .dic false kvs' := by
  unfold updD at h
  split at h
  · rename_i kvs more
    split at h
    · rename_i c
      obtain ⟨kvs', e, rfl⟩ := Option.map_eq_some_iff.mp h
      exact ⟨kvs, more, kvs', rfl, rfl, of_decide_eq_true c, e, rfl⟩
    · cases h
  · cases h
theorem kv_merge {P : Addr → Prop} {H : Hp} : ∀ {more : List (D × D)} {mm : List (Key × V)} {kvs : List (D × D)} {kk : List (Key × V)} {kvs' : List (D × D)}, RepKV P H more (mm.map fun q => (keyD q.1, q.2)) → RepKV P H kvs (kk.map fun q => (keyD q.1, q.2)) → mergeD kvs more = some kvs' → RepKV P H kvs' ((mergeK kk mm).map fun q => (keyD q.1, q.2))
  | [], mm, kvs, kk, kvs', h, g, e => by
    unfold RepKV at h
    rw [List.map_eq_nil_iff.mp h]
    cases e
    exact g
  | (k, d) :: more, mm, kvs, kk, kvs', h, g, e => by
    unfold RepKV at h
    obtain ⟨v, r, e1, h1, h2⟩ := h
    cases mm with
    | nil => cases e1
    | cons z mm =>
      rw [List.map_cons] at e1
      injection e1 with e2 e3
      subst e3
      injection e2 with e4 e5
      obtain ⟨zk, zv⟩ := z
      have e4 : keyD zk = k := e4
      have e5 : zv = v := e5
      subst e4 e5
      unfold mergeD at e
      obtain ⟨acc, e6, e7⟩ := Option.bind_eq_some_iff.mp e
      simp only [dput, keyA_keyD, Option.map_some] at e6
      cases e6
      exact kv_merge (kk := putK kk zk zv) h2 (kv_put keyA keyD keyA_keyD zk h1 g) e7
section
variable {X : Cx} {ks : Ks} {F : Fn} {pos : Pos}
def sUpd (i : Nat) (f : SE) : SS := fun F ρ => (f F ρ).bind fun y => (cV i F ρ).bind fun x => (updD x y).map fun d => .nx (ρ.set i (some d))
theorem m1_upd {x : Str} {e : Expr} {xp ap cp : Pos} (hn : noStar e = true) (hline : (ap.endLine == cp.line) = true) : M1 X (.Name x xp) "update" ap e cp where
  base := rfl
  few := by rw [starEach_cons (noStar_ne hn)]; rfl
  line := hline
  trees := by rw [starEach_cons (noStar_ne hn)]; rfl
theorem evS_upd {i : Nat} {x : Str} {e : Expr} {f : SE} {xp ap cp : Pos} (hi : X.N[i]? = some x) (hv : Vis X.env.scope x) (hd : (x == ("__debug__" : Str)) = false) (hcd : (x == ("__classdict__" : Str)) = false) (hk : kd ks i = .M) (hn : noStar e = true) (he : EvE X ks F e f)
    (hline : (ap.endLine == cp.line) = true) :
    EvS X ks F (.Expr (.Call (.Attribute (.Name x xp) "update" ap) [e] [] cp) pos) (sUpd i f) := by
  obtain ⟨t, p, q⟩ := he.ex
  refine ⟨tDrop (tDUpd (tVar i) t), ps_expr (pe_dupd (pe_var hi hv hd hcd) p (m1_upd hn hline)) rfl, fun Hb Pe P H σ ρ D r sr ev k => ?_⟩
  obtain ⟨y, e1, e2⟩ := Option.bind_eq_some_iff.mp ev
  obtain ⟨o, e3, u2⟩ := Option.bind_eq_some_iff.mp e2
  obtain ⟨d, u3, er⟩ := Option.map_eq_some_iff.mp u2
  obtain ⟨kvs, more, kvs', rfl, rfl, hl, hm, rfl⟩ := updD_some u3
  cases er
  have e4 := cV_some e3
  obtain ⟨v, e5, r5⟩ := sr.er.2 i _ e4
  rw [hk] at r5
  simp only [RepK, RepB] at r5
  obtain ⟨a, ps, rfl, ⟨kk, rd, rfl⟩, h2⟩ := r5
  have isd : IsD H a := .inl ⟨kk, rd⟩
  refine ⟨.ref a, e5, a, rfl, isd, q σ H P ρ _ _ sr.fre sr.er e1 fun w H1 s1 r1 => ?_⟩
  simp only [Rep] at r1
  obtain ⟨b, qs, rfl, pb, ⟨mm, rb, rfl⟩, g2⟩ := r1
  have sr1 := sr.same s1
  obtain ⟨a', q1, q2, q3, q4⟩ := sr1.own i _ (.inl hk) e4 rfl
  rw [e5] at q1; cases q1
  have ch := q4 hk
  have rd1 : H1 a = some (.dK kk) := by
    rcases rd with rd | ⟨o, rd⟩
    · exact s1 _ _ rd
    · rw [s1 _ _ rd] at ch; exact ch.elim
  have lk := h2.len
  have lm := g2.len
  rw [List.length_map] at lk lm
  refine ⟨b, kk, mm, rfl, fun z => q3 (z ▸ pb), rd1, rb, by omega, ?_⟩
  obtain ⟨sr2, fm⟩ := sr1.mut (d' := .dic false kvs') (o := .dK (mergeK kk mm)) hk e4 rfl e5 trivial (by
    simp only [RepB]
    exact ⟨a, _, rfl, ⟨_, .inl upd_same, rfl⟩, RepKV.chg ch q3 _ _ (kv_merge g2 (h2.same s1) hm)⟩) rfl
  exact k P σ _ sr2 ((Frm.of_same s1).trans fm)
/-- by another own dict -/
theorem evS_updV {i j : Nat} {x y : Str} {xp yp ap cp : Pos} (hi : X.N[i]? = some x) (hv : Vis X.env.scope x) (hd : (x == ("__debug__" : Str)) = false) (hcd : (x == ("__classdict__" : Str)) = false) (hk : kd ks i = .M)
    (hj : X.N[j]? = some y) (hv' : Vis X.env.scope y) (hd' : (y == ("__debug__" : Str)) = false) (hcd' : (y == ("__classdict__" : Str)) = false) (hk' : kd ks j = .M) (ij : i ≠ j) (hn : noStar (.Name y yp) = true) (hline : (ap.endLine == cp.line) = true) :
    EvS X ks F (.Expr (.Call (.Attribute (.Name x xp) "update" ap) [.Name y yp] [] cp) pos) (sUpd i (cV j)) := by
  refine ⟨tDrop (tDUpd (tVar i) (tVar j)), ps_expr (pe_dupd (pe_var hi hv hd hcd) (pe_var hj hv' hd' hcd') (m1_upd hn hline)) rfl, fun Hb Pe P H σ ρ D r sr ev k => ?_⟩
  obtain ⟨y, e1, e2⟩ := Option.bind_eq_some_iff.mp ev
  obtain ⟨o, e3, u2⟩ := Option.bind_eq_some_iff.mp e2
  obtain ⟨d, u3, er⟩ := Option.map_eq_some_iff.mp u2
  obtain ⟨kvs, more, kvs', rfl, rfl, hl, hm, rfl⟩ := updD_some u3
  cases er
  have e4 := cV_some e3
  have f4 := cV_some e1
  obtain ⟨v, e5, r5⟩ := sr.er.2 i _ e4
  rw [hk] at r5
  simp only [RepK, RepB] at r5
  obtain ⟨a, ps, rfl, ⟨kk, rd, rfl⟩, h2⟩ := r5
  obtain ⟨w, f5, t5⟩ := sr.er.2 j _ f4
  rw [hk'] at t5
  simp only [RepK, RepB] at t5
  obtain ⟨b, qs, rfl, ⟨mm, rb, rfl⟩, g2⟩ := t5
  have isd : IsD H a := .inl ⟨kk, rd⟩
  refine ⟨.ref a, e5, a, rfl, isd, .ref b, f5, ?_⟩
  obtain ⟨a', q1, q2, q3, q4⟩ := sr.own i _ (.inl hk) e4 rfl
  rw [e5] at q1; cases q1
  have ch := q4 hk
  have rd1 : H a = some (.dK kk) := by
    rcases rd with rd | ⟨o, rd⟩
    · exact rd
    · rw [rd] at ch; exact ch.elim
  have lk := h2.len
  have lm := g2.len
  rw [List.length_map] at lk lm
  have ne : a ≠ b := fun z => by
    subst z
    exact sr.dist i j _ _ a ij (.inl hk) (.inl hk') e4 f4 rfl rfl e5 f5
  refine ⟨b, kk, mm, rfl, ne, rd1, rb, by omega, ?_⟩
  obtain ⟨sr2, fm⟩ := sr.mut (d' := .dic false kvs') (o := .dK (mergeK kk mm)) hk e4 rfl e5 trivial (by
    simp only [RepB]
    exact ⟨a, _, rfl, ⟨_, .inl upd_same, rfl⟩, RepKV.chg ch q3 _ _ (kv_merge g2 h2 hm)⟩) rfl
  exact k P σ _ sr2 fm
end
end RE
/-! RE13o: sorted of whatever can be collected: tuples. -/
namespace KS
open PySem PySem.Spec PyProof.Rows L2
section
variable {P : Program} {w : World} {A : Around} {E : Value → Shared → Prop} {s : Shared}
/-- the things of a tuple, one by one -/
theorem collect_tup {t : Addr} {us : List Value} {ob : Obj} {m : Nat} {K : List Value → Shared → Prop} (h1 : s.heap.get? t = some ob) (h2 : ob.cls = .type "tuple") (h3 : ob.data = .seq us.toArray m) (hz : us.length ≤ sizeLine)
    (k : ∀ h' : Heap, (∀ b o, s.heap.get? b = some o → h'.get? b = some o) → s.heap.objs.size ≤ h'.objs.size → K us { s with heap := h' }) : wpAny (model P w) A (collect (.ref t)) K E s := by
  have hS : (s.heap.push (seqObj "list" #[] 0)).get? s.heap.objs.size = some (seqObj "list" #[] 0) := Heap.get?_push_size _ rfl
  have h1' : (s.heap.push (seqObj "list" #[] 0)).get? t = some ob := Heap.get?_push_of_some _ h1
  unfold collect
  refine wpAny_bind (wpAny_runValue ?_)
  refine codeAny_builtin entry_proto_collect' ?_
  show wpAny _ _ (newList [] >>= fun l => again (.builtin "list.__iadd__" ⟨[l, .ref t], []⟩)) _ _ s
  refine wpAny_bind (wpAny_newList ?_)
  refine wpAny_pure ⟨Code.quiet_builtin _ (by decide +kernel), ?_⟩
  refine codeAny_builtin entry_list_iadd' ?_
  show wpAny _ _ (Builtin.List.listExtendWith (.ref s.heap.objs.size) (.ref t) (.ref s.heap.objs.size)) _ _ { s with heap := s.heap.push (seqObj "list" #[] 0) }
  unfold Builtin.List.listExtendWith
  have hT : Shared.TypeIs { s with heap := s.heap.push (seqObj "list" #[] 0) } (.ref t) "tuple" := ⟨ob, h1', h2⟩
  refine wpAny_bind (wpAny_typeOf hT ?_)
  have tt : (Value.type "tuple" == Value.type "tuple") = true := rfl
  rw [if_pos (by rw [tt]; simp)]
  refine wpAny_bind (listItems_at h1' h3 ?_)
  refine wpAny_bind (listItems_at hS rfl ?_)
  rw [if_neg (by simp)]
  refine wpAny_bind (listUpdate_at hS rfl ?_ (Nat.zero_le _) ?_)
  · refine wpAny_pure ?_
    show wpAny (model P w) A (load s.heap.objs.size >>= fun o => match o.data with
      | .seq xs _ => pure xs.toList
      | _ => unsupported "internal:collect") K E _
    refine wpAny_bind (wpAny_load (get?_update_seq hS _) ?_)
    show wpAny _ _ (pure ((#[] : Array Value) ++ us.toArray).toList) K E _
    have e : ((#[] : Array Value) ++ us.toArray).toList = us := by simp
    rw [e]
    refine wpAny_pure (k _ (fun b o q => ?_) ?_)
    · rw [Heap.get?_update_other _ _ (Nat.ne_of_gt (Heap.lt_size q))]
      exact Heap.get?_push_of_some _ q
    · rw [Heap.size_update, size_push']
      exact Nat.le_succ _
  · show (#[] ++ us.toArray).size ≤ sizeLine + 1
    rw [Array.size_append, List.size_toArray]
    exact Nat.le_trans (by simp) (Nat.le_succ_of_le hz)
/-- sorted(x), the things of x being vs -/
theorem sorted_col {α : Type} {enc : α → PyData} {bs : List α} {R : Value → α → Prop} {vs : List Value} {x : Value} {Q : Value → Shared → Prop}
    (col : ∀ K : List Value → Shared → Prop, (∀ s', (∀ b o, s.heap.get? b = some o → s'.heap.get? b = some o) → s.heap.objs.size ≤ s'.heap.objs.size → s'.gens = s.gens → s'.os = s.os → s'.drawn = s.drawn → K vs s') → wpAny (model P w) A.in1 (collect x) K E s)
    (e : PySem.W.EachIs R vs bs) (er : PySem.W.EachIs (fun v b => ∃ as, Reads s.heap v (enc b) as) vs bs) (hal : PySem.W.AllAlike (bs.map enc)) (hk : Sort2 (bs.map enc)) (hL : bs.length ≤ sizeLine) (hu : ∀ b ∈ bs, A.units + 8 + (enc b).depth < cLine)
    (hQ : ∀ s' p (out : Array Value) (c : Nat), (∀ b o, s.heap.get? b = some o → s'.heap.get? b = some o) → s'.gens = s.gens → s'.os = s.os → s'.drawn = s.drawn → s.heap.objs.size ≤ p → s'.heap.get? p = some (seqObj "list" out c) → PySem.W.EachIs R out.toList (bs.mergeSort (PySem.W.dataLe false enc)) → Q (.ref p) s') :
    wpAny (model P w) A (call (.builtin "sorted") [x]) Q E s := by
  refine Calls.call_function_entry kind_sorted plain_sorted entry_sorted (args_sorted1 _) ?_
  unfold Builtin.«sorted»
  refine wpAny_bind (m := checkCount "sorted" 1 1 _) (wpAny_pure ?_)
  refine wpAny_bind (col _ fun s1 k1 hz g1 o1 d1 => ?_)
  refine wpAny_bind (wpAny_newList ?_ (by rw [e.length]; exact hL))
  have hL2 : (s1.heap.push (seqObj "list" vs.toArray 0)).get? s1.heap.objs.size = some (seqObj "list" vs.toArray 0) := Heap.get?_push_size _ rfl
  refine wpAny_bind (wpAny_holding (list_sort2 (s := { s1 with heap := s1.heap.push (seqObj "list" vs.toArray 0) }) (enc := enc) hL2 e (er.mono fun v b h => ?_) hal hk hL ?_ fun out ho eo => ?_))
  · obtain ⟨as, h1⟩ := h
    refine ⟨as, Reads.keeps (fun b o q => Heap.get?_push_of_some _ (k1 b o q)) h1, fun hm => ?_⟩
    obtain ⟨o, q⟩ := PyProof.On.reads_mem_get h1 _ hm
    exact absurd (Heap.lt_size q) (Nat.not_lt.mpr hz)
  · intro b hb
    have := hu b hb
    first
      | exact (show A.units + 1 + (enc b).depth < cLine by omega)
      | exact (show A.units + 1 + 1 + (enc b).depth < cLine by omega)
      | exact (show A.units + 1 + 1 + 1 + (enc b).depth < cLine by omega)
      | exact (show A.units + 1 + 1 + 1 + 1 + (enc b).depth < cLine by omega)
  · obtain ⟨c, hc⟩ := sortedHeap_at (vs := vs) (out := List.toArray out) hL2
    refine wpAny_pure ⟨_, rfl, hQ _ s1.heap.objs.size (List.toArray out) c (fun b u e => ?_) g1 o1 d1 hz hc eo⟩
    have z := k1 b u e
    have lt := Heap.lt_size z
    show (sortedHeap (s1.heap.push (seqObj "list" vs.toArray 0)) s1.heap.objs.size vs (List.toArray out)).get? b = some u
    rw [sortedHeap_old (Nat.ne_of_lt lt) (by rw [size_push']; exact Nat.lt_succ_of_lt lt)]
    exact Heap.get?_push_of_some _ z
end
end KS
namespace RE
open PySem PySem.Spec PyProof.Rows L2
def rSortTp (K : PySem.W.Frag) : List V → Hp → VK → Prop := fun vs H Q => ∃ (a : Addr) (ps : List (D × V)), vs = [V.ref a] ∧ SqT K H a (ps.map (·.2)) ∧ (∀ p ∈ ps, Dp K H p.2 (toP p.1) ∧ (toP p.1).depth ≤ 60) ∧ PySem.W.AllAlike (ps.map fun p => toP p.1) ∧ KS.Sort2 (ps.map fun p => toP p.1) ∧ ps.length ≤ sizeLine ∧
  ∀ p, H p = none → Q (.ref p) (upd H p (.lst ((ps.mergeSort (PySem.W.dataLe false fun p => toP p.1)).map (·.2))))
theorem cr_sortTp {X : Cx} (hu : X.A.units + 128 < cLine) : CallR X (.builtin "sorted") (rSortTp X.K) := by
  intro pins s σ H vs us Q I r h
  obtain ⟨a, ps, rfl, hs, hd, hal, hk, hz, q⟩ := h
  obtain ⟨its, rv, ⟨⟨cls, dd, data, sl⟩, ho, hc, n, hdt⟩, _⟩ := I.tuple hs
  rw [Vals.ref1 r]
  obtain ⟨e1, e2⟩ := each_of I rv fun p hp => (hd p hp).1
  have hlen : its.length = ps.length := e1.length
  refine KS.sorted_col (vs := its) (bs := ps) (enc := fun p : D × V => toP p.1) (fun K hK => ?_) e1 e2 hal hk hz (fun p hp => by have := (hd p hp).2; omega) fun s' p out c kp g1 o1 d1 hz' hc' eo => ?_
  · exact KS.collect_tup ho hc hdt (by rw [hlen]; exact hz) fun h' kp hs => hK _ kp hs rfl rfl rfl
  · have hv := vals_of_each eo
    obtain ⟨h1, g2, d2, t2, o2⟩ := s'
    simp only at g1 o1 d1
    subst g1 o1 d1
    refine ⟨.ref p, upd H p (.lst ((ps.mergeSort (PySem.W.dataLe false fun p => toP p.1)).map (·.2))), I.laid (t' := t2) kp hz' ⟨?_, out.toList, c, hv, hc'⟩, rfl, q _ (I.hok.fresh hz')⟩
    rw [List.length_map, List.length_mergeSort]
    exact hz
theorem sortedTp_ok {mg K} {P : Addr → Prop} {H : Hp} {xs : List D} {v : V} {Q : VK} (fr : Fre P H) (rx : RepB mg P H (.tup xs) v) (c : sortOk xs = true) (k : ∀ z H', Same H H' → Rep P H' (.lst (sortL xs)) z → TopNew H (.lst (sortL xs)) z → Q z H') : rSortTp K [v] H Q := by
  unfold sortOk at c
  simp only [Bool.and_eq_true, Bool.or_eq_true] at c
  obtain ⟨⟨c1, c2⟩, c3, c4⟩ := c
  simp only [RepB] at rx
  obtain ⟨a, vs, rfl, h1, h2⟩ := rx
  obtain ⟨ps, e1, rfl, h3⟩ := h2.pairs
  have hp : ∀ p ∈ ps, p.1 ∈ xs := fun p hp => e1 ▸ List.mem_map.mpr ⟨p, hp, rfl⟩
  rw [List.all_eq_true] at c1 c3
  refine ⟨a, ps, rfl, SqT.of h1, fun p hq => ⟨(h3 p hq).toB.dp (mg := mg) (c1 _ (hp p hq)), (pd_ok _ _ (c1 _ (hp p hq))).2⟩, ?_, ?_, ?_, fun q hq => ?_⟩
  · intro d hd d' hd'
    obtain ⟨p, hp1, rfl⟩ := List.mem_map.mp hd
    obtain ⟨p', hp2, rfl⟩ := List.mem_map.mp hd'
    have := c3 _ (hp p hp1)
    rw [List.all_eq_true] at this
    exact this _ (hp p' hp2)
  · rcases c4 with (c4 | c4) | c4
    · rw [List.all_eq_true] at c4
      refine .inl (.inl fun d hd => ?_)
      obtain ⟨p, hp1, rfl⟩ := List.mem_map.mp hd
      have := c4 _ (hp p hp1)
      generalize p.1 = z at *
      cases z <;> first | (cases this; done) | skip
      rename_i l
      cases l with
      | nil => cases this
      | cons y l => exact ⟨toP y, toPs l, by simp only [toP, toPs]⟩
    · rw [List.all_eq_true] at c4
      refine .inl (.inr fun d hd => ?_)
      obtain ⟨p, hp1, rfl⟩ := List.mem_map.mp hd
      have h4 := c4 _ (hp p hp1)
      have h5 := c1 _ (hp p hp1)
      generalize p.1 = z at *
      cases z with
      | non => cases h4
      | tup l => cases h4
      | dic _ _ => simp [pd] at h5
      | scr _ => simp [pd] at h5
      | fn _ => simp [pd] at h5
      | bl b => simp [toP]
      | int b => simp [toP]
      | str b => simp [toP]
      | lst b => simp [toP]
    · rw [List.all_eq_true] at c4
      refine .inr fun d hd => ?_
      obtain ⟨p, hp1, rfl⟩ := List.mem_map.mp hd
      have h4 := c4 _ (hp p hp1)
      generalize p.1 = z at *
      cases z <;> first | (cases h4; done) | exact ⟨_, by simp only [toP]; rfl⟩
  · have : ps.length = xs.length := by rw [← e1, List.length_map]
    rw [this]; exact of_decide_eq_true c2
  · refine k _ _ (same_new hq) ?_ (topNew_ref hq)
    have e2 : sortL xs = (ps.mergeSort (PySem.W.dataLe false fun p => toP p.1)).map (·.1) := by
      unfold sortL
      rw [← e1]
      exact (List.map_mergeSort (r := PySem.W.dataLe false fun p : D × V => toP p.1) (s := fun d e => PySem.W.dataLe false toP d e) (f := fun p : D × V => p.1) (l := ps) fun a _ b _ => rfl).symm
    rw [e2]
    refine rep_newL fr hq (RepL.ofPairs fun p hp => h3 p ?_)
    exact (List.mergeSort_perm ps _).mem_iff.mp hp
/-- sorted: lists, tuples of alike data; dicts of texts -/
noncomputable def sortedD : D → Option D
  | .tup xs => if sortOk xs then some (.lst (sortL xs)) else none
  | .lst xs => sortedD0 (.lst xs)
  | .dic t kvs => sortedD0 (.dic t kvs)
  | _ => none
def rSortDD (K : PySem.W.Frag) : List V → Hp → VK → Prop := fun xs H Q => rSortD0 K xs H Q ∨ rSortTp K xs H Q
theorem cr_sortDD {X : Cx} (hc : X.calm = true) (hu : X.A.units + 128 < cLine) : CallR X (.builtin "sorted") (rSortDD X.K) := (cr_sortD0 hc hu).or (cr_sortTp hu)
theorem sortedD_ok {mg K} : RcOk mg (rSortDD K) (op1 sortedD) := rc1 fun P H x d v Q fr rx e k => by
  have low : sortedD0 x = some d → rSortDD K [v] H Q := fun e => .inl (sortedD0_ok (mg := mg) (K := K) P H [x] d [v] Q fr ⟨v, [], rfl, rx, rfl⟩ e k)
  cases x with
  | tup xs =>
    have e : (if sortOk xs = true then some (D.lst (sortL xs)) else none) = some d := e
    split at e
    · rename_i c
      cases e
      exact .inr (sortedTp_ok (mg := mg) fr rx c k)
    · cases e
  | lst xs => exact low e
  | dic t kvs => exact low e
  | _ => cases e
end RE
/-! RE13p: x, y = a, b where the stores are not swapped: a tuple is made and taken apart. -/
namespace RE
open PySem PySem.Spec PyProof.Rows L2
section
variable {X : Cx} {ks : Ks} {F : Fn} {pos : Pos}
theorem FitsL.same {mg : Str → Option Value} {Hb : Hp} {P : Addr → Prop} {H H' : Hp} {σ : L2.St} {ρ : RE.Env} (s : Same H H') : ∀ {is : List Nat} {ds : List D} {vs : List V}, FitsL mg Hb P ks H σ ρ is ds vs → FitsL mg Hb P ks H' σ ρ is ds vs
  | [], [], [], _ => trivial
  | i :: is, d :: ds, v :: vs, h => ⟨h.1.mono s (fun _ p => p) (fun _ _ p => p), h.2.1, FitsL.same s h.2.2⟩
  | [], _ :: _, _, h => h.elim
  | [], [], _ :: _, h => h.elim
  | _ :: _, [], _, h => h.elim
  | _ :: _, _ :: _, [], h => h.elim
theorem evS_unp2 {i j : Nat} {x y : Str} {a b : Expr} {f : SA} {px py pt : Pos} {kt k2 pt2} (hc : X.calm = true) (hN : X.N.Nodup) (hi : X.N[i]? = some x) (hj : X.N[j]? = some y)
    (hx : Loc X.env.scope x) (hy : Loc X.env.scope y) (fx : X.fn x = true ∨ X.env.scope.names.lookup x = some .local) (fy : X.fn y = true ∨ X.env.scope.names.lookup y = some .local) (hk : ∀ l ∈ [i, j], kd ks l = .F ∨ kd ks l = .M) (ha : EvV X ks F [i, j] [a, b] f)
    (hs : swapsWithSole [.Tuple [.Name x px, .Name y py] kt pt] (.Tuple [a, b] k2 pt2) pos.line X.env = pure false) (hw : swappedStores [.Tuple [.Name x px, .Name y py] kt pt] (.Tuple [a, b] k2 pt2) X.env = pure none) :
    EvS X ks F (.Assign [.Tuple [.Name x px, .Name y py] kt pt] (.Tuple [a, b] k2 pt2) pos) (sPar [i, j] f) := by
  obtain ⟨t, p, q⟩ := ha.ex
  refine ⟨_, ps_asg (pe_tup p) (pg_tup hc (pgs_cons (pg_name hN hi hx fx) (pgs_cons (pg_name hN hj hy fy) pgs_nil))) hs hw, fun Hb Pe P H σ ρ D r sr ev k => ?_⟩
  obtain ⟨ds, e1, rfl⟩ := Option.map_eq_some_iff.mp ev
  refine q Hb Pe P H σ ρ _ ds sr e1 fun P1 vs H1 s1 sr1 fm ft _ => ?_
  match ds, vs, ft with
  | [], [], ft => exact ft.elim
  | [_], [_], ft => exact ft.2.2.elim
  | _ :: _ :: _ :: _, _ :: _ :: _ :: _, ft => exact ft.2.2.2.2.elim
  | [], _ :: _, ft => exact ft.elim
  | _ :: _, [], ft => exact ft.elim
  | [_], _ :: _ :: _, ft => exact ft.2.2.elim
  | _ :: _ :: _, [_], ft => exact ft.2.2.elim
  | [_, _], _ :: _ :: _ :: _, ft => exact ft.2.2.2.2.elim
  | _ :: _ :: _ :: _, [_, _], ft => exact ft.2.2.2.2.elim
  | [d1, d2], [v1, v2], ft =>
    refine ⟨by rw [sizeLine_eq]; show 2 ≤ 16777216; omega, fun T hT => ?_⟩
    have sn := same_new (o := .tup [v1, v2]) hT
    obtain ⟨sr2, fm2⟩ := SR.setAll hk (sr1.same sn) (FitsL.same sn ft)
    refine ⟨T, [v1, v2], rfl, SqT.of upd_same, rfl, v1, [v2], rfl, v2, [], rfl, rfl, ?_⟩
    exact k P1 _ _ sr2 ((fm.trans (Frm.of_same sn)).trans fm2)
end
end RE
/-! RE13q: dict displays with keys. -/
namespace RE
open PySem PySem.Spec PyProof.Rows L2
section
variable {X : Cx} {ks : Ks} {F : Fn} {pos : Pos}
def cPrs : List (SE × SE) → Fn → RE.Env → Option (List (D × D))
  | [], _, _ => some []
  | (f, g) :: r, F, ρ => (f F ρ).bind fun k => (g F ρ).bind fun v => (cPrs r F ρ).map fun l => (k, v) :: l
def keysOk (kvs : List (D × D)) : Bool := (kvs.all fun z => (keyA z.1).isSome) && decide (kvs.length ≤ 15)
def cDisp (l : List (SE × SE)) : SE := fun F ρ => (cPrs l F ρ).bind fun kvs => if keysOk kvs then (mergeD [] kvs).map fun q => .dic false q else none
def PrRep (P : Addr → Prop) (H : Hp) : List (D × D) → List (V × V) → Prop
  | [], ps => ps = []
  | (k, d) :: r, ps => ∃ u v t, ps = (u, v) :: t ∧ Rep P H k u ∧ Rep P H d v ∧ PrRep P H r t
theorem PrRep.same {P : Addr → Prop} {H H' : Hp} (s : Same H H') : ∀ {kvs : List (D × D)} {ps : List (V × V)}, PrRep P H kvs ps → PrRep P H' kvs ps
  | [], _, h => h
  | (k, d) :: r, _, ⟨u, v, t, e, h1, h2, h3⟩ => ⟨u, v, t, e, h1.same s, h2.same s, PrRep.same s h3⟩
theorem PrRep.keys {P : Addr → Prop} {H : Hp} : ∀ {kvs : List (D × D)} {ps : List (V × V)}, PrRep P H kvs ps → (kvs.all fun z => (keyA z.1).isSome) = true → ∃ mm : List (Key × V), ps = mm.map (fun q => (kV q.1, q.2)) ∧ RepKV P H kvs (mm.map fun q => (keyD q.1, q.2)) ∧ mm.length = kvs.length
  | [], _, h, _ => ⟨[], h, by simp only [List.map_nil, RepKV], rfl⟩
  | (k, d) :: r, _, ⟨u, v, t, e, h1, h2, h3⟩, hk => by
    rw [List.all_cons, Bool.and_eq_true] at hk
    obtain ⟨mm, e1, e2, e3⟩ := PrRep.keys h3 hk.2
    obtain ⟨key, rfl, eu⟩ : ∃ key, k = keyD key ∧ u = kV key := by
      have hk1 := hk.1
      cases k <;> first | (cases hk1; done) | skip
      · simp only [Rep] at h1; exact ⟨.inl _, rfl, h1⟩
      · simp only [Rep] at h1; exact ⟨.inr _, rfl, h1⟩
    subst e eu e1
    exact ⟨(key, v) :: mm, rfl, by simp only [List.map_cons, RepKV]; exact ⟨v, _, rfl, h2, e2⟩, by rw [List.length_cons, List.length_cons, e3]⟩
structure EvPr (X : Cx) (ks : Ks) (F : Fn) (pos : Pos) (keys : List (Option Expr)) (vals : List Expr) (l : List (SE × SE)) : Prop where
  ex : ∃ trs, PPs X pos keys vals trs ∧ ∀ (σ : L2.St) (H : Hp) (P : Addr → Prop) (ρ : RE.Env) (Q : List (V × V) → Hp → Prop) (kvs : List (D × D)), Fre P H → ER X.mg P ks H σ ρ → cPrs l F ρ = some kvs → (∀ ps H', Same H H' → PrRep P H' kvs ps → Q ps H') → tPairs trs σ H Q
theorem evPr_nil : EvPr X ks F pos [] [] [] := ⟨[], pps_nil, fun σ H P ρ Q kvs fr er ev k => by cases ev; exact k [] H (Same.refl H) rfl⟩
theorem evPr_cons {kx vx : Expr} {keys : List (Option Expr)} {vals : List Expr} {f g : SE} {l : List (SE × SE)} (h1 : EvE X ks F kx f) (h2 : EvE X ks F vx g) (h3 : EvPr X ks F pos keys vals l) : EvPr X ks F pos (some kx :: keys) (vx :: vals) ((f, g) :: l) := by
  obtain ⟨t1, p1, q1⟩ := h1.ex
  obtain ⟨t2, p2, q2⟩ := h2.ex
  obtain ⟨trs, p3, q3⟩ := h3.ex
  refine ⟨(t1, t2) :: trs, pps_cons p1 p2 p3, fun σ H P ρ Q kvs fr er ev k => ?_⟩
  obtain ⟨x, e1, ev⟩ := Option.bind_eq_some_iff.mp ev
  obtain ⟨y, e2, ev⟩ := Option.bind_eq_some_iff.mp ev
  obtain ⟨r, e3, rfl⟩ := Option.map_eq_some_iff.mp ev
  refine q1 σ H P ρ _ x fr er e1 fun u H1 s1 r1 => ?_
  refine q2 σ H1 P ρ _ y (fr.same s1) (er.same s1) e2 fun v H2 s2 r2 => ?_
  refine q3 σ H2 P ρ _ r ((fr.same s1).same s2) ((er.same s1).same s2) e3 fun ps H3 s3 r3 => ?_
  exact k _ H3 ((s1.trans s2).trans s3) ⟨u, v, ps, rfl, (r1.same s2).same s3, r2.same s3, r3⟩
theorem evM_disp {keys : List (Option Expr)} {vals : List Expr} {l : List (SE × SE)} (h : EvPr X ks F pos keys vals l) (hall : keys.all (·.isSome) = true) (hl : keys.length = vals.length) (h0 : keys ≠ []) (h15 : keys.length ≤ 15) : EvM X ks F (.Dict keys vals pos) (cDisp l) := by
  obtain ⟨trs, p, q⟩ := h.ex
  refine ⟨tDisp trs, pe_disp p hall hl h0 h15, fun σ H P ρ Q d fr er ev k => ?_⟩
  obtain ⟨kvs, e1, ev⟩ := Option.bind_eq_some_iff.mp ev
  split at ev
  · rename_i hk
    obtain ⟨res, e2, rfl⟩ := Option.map_eq_some_iff.mp ev
    unfold keysOk at hk
    rw [Bool.and_eq_true, decide_eq_true_eq] at hk
    intro a ha
    have sn := same_new (o := .dK []) ha
    refine q σ _ (fun b => P b ∧ b ≠ a) ρ _ kvs (fre_minus (fr.same sn) (by rw [upd_same]; exact fun z => nomatch z)) (er.mono sn fun b hb pb => ⟨pb, fun e => hb (e ▸ ha)⟩) e1 fun ps H2 s2 pr => ?_
    have hD : H2 a = some (.dK []) := s2 _ _ upd_same
    obtain ⟨mm, e3, e4, e5⟩ := pr.keys hk.1
    refine ⟨hD, mm, e3, by rw [e5]; exact hk.2, ?_⟩
    have mg := kv_merge (kk := []) e4 (by simp only [List.map_nil, RepKV]) e2
    refine k _ _ (fun b o e => ?_) ⟨?_, topNew_ref ha, fun _ b eb => by cases eb; rw [upd_same]; trivial⟩
    · rw [upd_ne (ne_of_none e ha)]
      exact s2 b o (sn b o e)
    · simp only [Rep]
      refine ⟨a, _, rfl, fr a ha, ⟨mergeK [] mm, .inl upd_same, rfl⟩, ?_⟩
      exact RepKV.weak (fun b z => z.1) (RepKV.chg (P := fun b => P b ∧ b ≠ a) (by rw [hD]; trivial) (fun z => z.2 rfl) _ _ mg)
  · cases ev
end
end RE
set_option maxHeartbeats 1000000
/-! MS1: sets of tuples of ints and texts: small questions, the search. -/
namespace MS
open PySem PySem.Spec PyProof.Rows L2
abbrev hM (P : Program) (w : World) (k : List Key) : Int := tupleKeyHash (mixKind P w) k
abbrev IsM (P : Program) (w : World) (h : Heap) (k : List Key) (a : Addr) : Prop := IsTupleKey (mixKind P w) h k a
abbrev Row := Addr × List Key
section
variable {P : Program} {w : World} {A : Around} {E : Value → Shared → Prop} {s : Shared}
theorem each_key {k : List Key} {vs : List Value} (h : ItemsAre (mixKind P w) k vs) : ∀ v ∈ vs, ∃ q : Key, keyIs q v = true := by
  induction h with
  | nil => exact fun v hv => nomatch hv
  | cons a _ ih => exact fun v hv => (List.mem_cons.mp hv).elim (fun e => ⟨_, e ▸ a⟩) (ih v)
theorem noClass (n : Nat) {q : Key} {v : Value} (h : keyIs q v = true) : ofAClassStatement n v = pure false := by
  obtain ⟨i, t, rfl, rfl⟩ | ⟨x, t, rfl, rfl⟩ := keyIs_shape h <;> cases n <;> rfl
theorem someHash (n : Nat) {q : Key} {v : Value} (h : keyIs q v = true) : ∃ b, hashByValue n v = pure b := by
  obtain ⟨i, t, rfl, rfl⟩ | ⟨x, t, rfl, rfl⟩ := keyIs_shape h
  · cases n <;> exact ⟨true, rfl⟩
  · cases n <;> exact ⟨false, rfl⟩
theorem class_tup {k : List Key} {b : Addr} {Q : Bool → Shared → Prop} (hk : IsM P w s.heap k b) (h : Q false s) : wpAny (model P w) A (ofAClassStatement 8 (.ref b)) Q E s := by
  have ty := hk.typeIs
  obtain ⟨o, its, n, at1, _, dt, it⟩ := hk
  have key := each_key it
  unfold ofAClassStatement
  refine wpAny_bind (wpAny_typeOf ty ?_); dsimp only
  have tt : (("tuple" : String) == "tuple") = true := by decide
  simp only [tt, if_true, Bool.not_true, Bool.false_eq_true, if_false]
  try (refine wpAny_bind (wpAny_pure ?_); simp only [Bool.not_true, Bool.false_eq_true, if_false])
  show wpAny _ _ (seqItems? (.ref b) >>= _) _ _ s
  refine wpAny_bind (wpAny_seqItems at1 dt ?_); dsimp only; refine wpAny_bind ?_
  show wpAny _ _ (forIn its _ _) _ _ s
  rw [← Array.forIn_toList]
  refine wpAny_forIn_list _ (fun left r s' => (r.1 = none ∧ s' = s) ∧ ∀ v ∈ left, ∃ q : Key, keyIs q v = true) _ ?_ ?_ _ _ ⟨⟨rfl, rfl⟩, key⟩
  · rintro v left r s' ⟨⟨e1, rfl⟩, al⟩
    obtain ⟨q, hq⟩ := al v List.mem_cons_self
    rw [noClass _ hq]
    refine wpAny_bind (wpAny_pure ?_); simp only [Bool.false_eq_true, if_false]
    exact wpAny_pure ⟨⟨rfl, rfl⟩, fun u hu => al u (List.mem_cons_of_mem _ hu)⟩
  · rintro ⟨r1, r2⟩ s' ⟨⟨e1, rfl⟩, _⟩
    simp only at e1; subst e1; exact wpAny_pure h
theorem hash_tup {k : List Key} {b : Addr} {Q : Bool → Shared → Prop} (hk : IsM P w s.heap k b) (h : ∀ x, Q x s) : wpAny (model P w) A (hashByValue 8 (.ref b)) Q E s := by
  have ty := hk.typeIs
  obtain ⟨o, its, n, at1, _, dt, it⟩ := hk
  have key := each_key it
  unfold hashByValue
  refine wpAny_bind (wpAny_specialOf ty F.slot_tuple_hash.lookup ?_)
  show wpAny _ _ (seqItems? (.ref b) >>= _) _ _ s
  refine wpAny_bind (wpAny_seqItems at1 dt ?_); refine wpAny_bind ?_
  show wpAny _ _ (forIn its _ _) _ _ s
  rw [← Array.forIn_toList]
  refine wpAny_forIn_list _ (fun left r s' => s' = s ∧ ∀ v ∈ left, ∃ q : Key, keyIs q v = true) _ ?_ ?_ _ _ ⟨rfl, key⟩
  · rintro v left r s' ⟨rfl, al⟩
    obtain ⟨q, hq⟩ := al v List.mem_cons_self
    obtain ⟨x, hx⟩ := someHash 7 hq
    rw [hx]; refine wpAny_bind (wpAny_pure ?_)
    cases x with
    | true =>
      simp only [Bool.not_true, Bool.false_eq_true, if_false]
      exact wpAny_pure ⟨rfl, fun u hu => al u (List.mem_cons_of_mem _ hu)⟩
    | false =>
      simp only [Bool.not_false, if_true]
      exact wpAny_pure (wpAny_pure (h false))
  · rintro ⟨r1, r2⟩ s' ⟨rfl, _⟩
    cases r1 with
    | none => exact wpAny_pure (h true)
    | some x => exact wpAny_pure (h x)
theorem unseen {k : List Key} {b : Addr} {Q : Bool → Shared → Prop} (hk : IsM P w s.heap k b) {ys : List Value} (hy : ∀ y ∈ ys, ∃ (k' : List Key) (c : Addr), y = Value.ref c ∧ IsM P w s.heap k' c) (h : Q false s) :
    wpAny (model P w) A (searchCouldBeSeen (.ref b) ys) Q E s := by
  unfold searchCouldBeSeen
  refine wpAny_bind ?_
  refine wpAny_forIn_list _ (fun left r s' => (r.1 = none ∧ s' = s) ∧ ∀ y ∈ left, ∃ (k' : List Key) (c : Addr), y = Value.ref c ∧ IsM P w s.heap k' c) _ ?_ ?_ _ _ ⟨⟨rfl, rfl⟩, hy⟩
  · rintro v left r s' ⟨⟨e1, rfl⟩, al⟩
    obtain ⟨k', c, rfl, hc⟩ := al v List.mem_cons_self
    have al' := fun u hu => al u (List.mem_cons_of_mem _ hu)
    dsimp only
    by_cases same : (b == c || (carriedByValue (.ref b) && carriedByValue (.ref c))) = true
    · exact wp_if_pos same (wpAny_pure ⟨⟨rfl, rfl⟩, al'⟩)
    · refine wp_if_neg same (wpAny_bind (wpAny_eqIsQuiet_tuple hk ?_)); simp only [Bool.not_true, Bool.false_eq_true, if_false]
      refine wpAny_bind (wpAny_eqIsQuiet_tuple hc ?_); simp only [Bool.not_true, Bool.false_eq_true, if_false]
      refine wpAny_bind (class_tup hk ?_); simp only [Bool.false_eq_true, if_false]
      refine wpAny_bind (class_tup hc ?_); simp only [Bool.false_eq_true, if_false]
      exact wpAny_pure ⟨⟨rfl, rfl⟩, al'⟩
  · rintro ⟨r1, r2⟩ s' ⟨⟨e1, rfl⟩, _⟩
    simp only at e1; subst e1; exact wpAny_pure h
/-! the set: its rows, its table -/
def rowVs (P : Program) (w : World) (L : List Row) : List (Int × Value) := L.map fun r => (hM P w r.2, Value.ref r.1)
structure Has (P : Program) (w : World) (h : Heap) (a : Addr) (L : List Row) (es : Array (Int × Value)) (ep : Nat) (t : SetTable) : Prop where
  obj : ∃ o, h.get? a = some o ∧ o.ExactSet ∧ o.data = .set es ep t
  val : es.toList = rowVs P w L
  tab : TabOk t (L.map fun r => hM P w r.2)
  nd : (L.map (·.2)).Nodup
  tup : ∀ r ∈ L, IsM P w h r.2 r.1
  led : w.params.followText "set-order" = true ∨ t.led = true
  room : L.length * 5 < t.mask * 3
  few : L.length < 64
variable {a : Addr} {L : List Row} {es : Array (Int × Value)} {ep : Nat} {t : SetTable}
theorem val_size (h : es.toList = rowVs P w L) : es.size = L.length := by
  rw [← Array.length_toList, h]; exact List.length_map ..
theorem Has.fits (R : Has P w s.heap a L es ep t) : t.fits es.size = true := by
  have h1 := R.tab.sz
  have h2 := val_size R.val
  have h3 := R.room
  rw [List.length_map] at h1
  simp only [SetTable.fits, SetTable.fill, R.tab.dm, Bool.and_eq_true, beq_iff_eq, decide_eq_true_eq]
  exact ⟨by omega, show t.place.size + 0 ≤ t.mask by omega⟩
theorem val_at (h : es.toList = rowVs P w L) {i : Nat} {r : Row} (e : L[i]? = some r) : es[i]? = some (hM P w r.2, Value.ref r.1) := by
  rw [← Array.getElem?_toList, h, rowVs, List.getElem?_map, e]; rfl
theorem Has.kept (R : Has P w s.heap a L es ep t) : ¬ t.gaveWay = true := by
  rw [SetTable.gaveWay, mask_odd R.tab.mok]; decide
/-- the probe at the c-th step of the way of a hash -/
abbrev stand (t : SetTable) (h : Int) (c : Nat) : SetTable.Probe := nth t.mask (runAt t.mask (SetTable.bits h % (t.mask + 1)) (SetTable.bits h)) c
theorem stand_add (t : SetTable) (h : Int) (c q : Nat) : nth t.mask (stand t h c) q = stand t h (c + q) := (nth_add t.mask c _ q).symm
theorem stand_dm (t : SetTable) (h : Int) (c : Nat) : (stand t h c).dummy = none := by
  have : ∀ (n : Nat) (p : SetTable.Probe), p.dummy = none → (nth t.mask p n).dummy = none := fun n => by
    induction n with
    | zero => exact fun p h => h
    | succ n ih => exact fun p h => ih (adv t.mask p) (by unfold adv; split <;> exact h)
  exact this c _ rfl
/-- what the probe tells from step c on, where step K is the first empty place -/
theorem told (R : Has P w s.heap a L es ep t) (h : Int) {K c : Nat} (hc : c ≤ K) (hf : K < 10 * SetTable.turns t.mask) (hK : way t.mask h K ∉ t.place.toList) (hb : ∀ c, c < K → way t.mask h c ∈ t.place.toList) :
    (∃ q i r, c ≤ q ∧ q < K ∧ t.place.toList[i]? = some (way t.mask h q) ∧ L[i]? = some r ∧ (∀ (q' i' : Nat) (r' : Row), c ≤ q' → q' < q → t.place.toList[i']? = some (way t.mask h q') → L[i']? = some r' → hM P w r'.2 ≠ h) ∧
      t.probe (fun i => (es[i]?.map (·.1)).getD 0) h (stand t h c) = some (.candidate (way t.mask h q) i (stand t h (q + 1)))) ∨
    ((∀ (q' i' : Nat) (r' : Row), c ≤ q' → q' < K → t.place.toList[i']? = some (way t.mask h q') → L[i']? = some r' → hM P w r'.2 ≠ h) ∧ t.probe (fun i => (es[i]?.map (·.1)).getD 0) h (stand t h c) = some (.empty (way t.mask h K) none)) := by
  have j : ∀ q, (nth t.mask (stand t h c) q).j = way t.mask h (c + q) := fun q => congrArg SetTable.Probe.j (stand_add t h c q)
  have hh : ∀ (i : Nat) (r : Row), L[i]? = some r → (fun i => (es[i]?.map (·.1)).getD 0) i = hM P w r.2 := fun i r e => by
    show (es[i]?.map (·.1)).getD 0 = _
    rw [val_at R.val e]; rfl
  have back : ∀ q', c ≤ q' → way t.mask h q' = (nth t.mask (stand t h c) (q' - c)).j := fun q' z => by rw [j, show c + (q' - c) = q' by omega]
  rcases go_spec t R.tab.ris R.tab.dm (fun i => (es[i]?.map (·.1)).getD 0) h (10 * SetTable.turns t.mask) (K - c) (stand t h c) (stand_dm t h c) (by omega) (fun q hq => by rw [j]; exact hb _ (by omega)) (by rw [j, show c + (K - c) = K by omega]; exact hK) with ⟨q, i, hq, hi, _, hno, hp⟩ | ⟨hno, hp⟩
  · rw [j] at hi hp
    rw [stand_add] at hp
    have il : i < L.length := by
      have h1 := (List.getElem?_eq_some_iff.mp hi).1
      have h2 := R.tab.sz
      rw [List.length_map] at h2
      rw [Array.length_toList] at h1
      omega
    refine .inl ⟨c + q, i, L[i], by omega, by omega, hi, List.getElem?_eq_getElem il, fun q' i' r' z1 z2 e1 e2 => ?_, hp⟩
    rw [back q' z1] at e1
    rw [← hh i' r' e2]
    exact hno (q' - c) i' (by omega) e1
  · rw [j, show c + (K - c) = K by omega] at hp
    refine .inr ⟨fun q' i' r' z1 z2 e1 e2 => ?_, hp⟩
    rw [back q' z1] at e1
    rw [← hh i' r' e2]
    exact hno (q' - c) i' (by omega) e1
/-- looking for a tuple, from step c on -/
theorem look_from (R : Has P w s.heap a L es ep t) {x : Addr} {k : List Key} (hx : IsM P w s.heap k x) (hu : A.units < cLine) {K : Nat} (hf : K < 10 * SetTable.turns t.mask)
    (hK : way t.mask (hM P w k) K ∉ t.place.toList) (hb : ∀ c, c < K → way t.mask (hM P w k) c ∈ t.place.toList) {Q : SetFound → Shared → Prop}
    (yes : k ∈ L.map (·.2) → Q (.there none) s) (no : k ∉ L.map (·.2) → Q (.free (way t.mask (hM P w k) K) false) s) :
    ∀ (f c : Nat) (st : Option SetTable.Probe), st.getD (t.probeStart (hM P w k)) = stand t (hM P w k) c → c ≤ K → K - c < f →
      (∀ (i : Nat) (r : Row), L[i]? = some r → r.2 = k → ∃ q, c ≤ q ∧ q < K ∧ t.place.toList[i]? = some (way t.mask (hM P w k) q)) →
      wpAny (model P w) A (setSearchFrom a (.ref x) (hM P w k) true f st) Q E s
  | 0, _, _, _, _, z, _ => absurd z (Nat.not_lt_zero _)
  | f + 1, c, st, est, hc, hfu, re => by
    obtain ⟨o, at1, ex, dt⟩ := R.obj
    rw [setSearchFrom_succ]
    refine wpAny_bind (wpAny_setState_of at1 dt R.fits ?_); dsimp only
    refine wp_if_neg R.kept ?_
    try refine wpAny_bind (wpAny_pure ?_)
    rw [est]
    rcases told R (hM P w k) hc hf hK hb with ⟨q, i, r, q1, q2, hi, hr, hno, hp⟩ | ⟨hno, hp⟩
    · rw [hp]; dsimp only
      have rin : r ∈ L := List.mem_of_getElem? hr
      have go : wpAny (model P w) A (searchRest a (.ref x) (hM P w k) true f es t (way t.mask (hM P w k) q) i (stand t (hM P w k) (q + 1))) Q E s := by
        unfold searchRest
        rw [val_at R.val hr]; dsimp only
        refine wpAny_bind (wpAny_holding (wpAny_eqBool_tuple hu (R.tup r rin) hx ?_)); refine wpAny_bind (wpAny_setState_of at1 dt R.fits ?_); dsimp only
        by_cases e : r.2 = k
        · exact wp_if_pos (by simp [e]) (wpAny_pure (yes (List.mem_map.mpr ⟨r, rin, e⟩)))
        · refine wp_if_neg (by simp [e]) ?_
          try refine wpAny_bind (wpAny_pure ?_)
          rw [sameMem]; dsimp only
          have live : t.slot (way t.mask (hM P w k) q) = .live i := slot_live R.tab.ris hi
          simp only [if_true, live, val_at R.val hr]
          refine wpAny_bind (wpAny_isSame_ref_self (wpAny_bind (wpAny_pure ?_))); simp only [if_true]
          refine wp_if_neg (by simp [e]) (look_from R hx hu hf hK hb yes no f (q + 1) _ rfl (by omega) (by omega) fun i0 r0 z1 z2 => ?_)
          obtain ⟨q0, b1, b2, b3⟩ := re i0 r0 z1 z2
          refine ⟨q0, Nat.lt_of_not_le fun le => ?_, b2, b3⟩
          rcases Nat.lt_or_eq_of_le le with lt | rfl
          · exact hno q0 i0 r0 b1 lt b3 z1 (congrArg _ z2)
          · have l2 := slot_live R.tab.ris b3
            rw [live] at l2
            injection l2 with l2
            rw [← l2, hr] at z1
            exact e (by rw [Option.some.inj z1]; exact z2)
      by_cases ld : t.led = true
      · refine wp_if_neg (by simp [ld]) ?_
        try refine wpAny_bind (wpAny_pure ?_)
        exact go
      · refine wp_if_pos (by simp [ld]) (wpAny_bind (unseen hx (fun y hy => ?_) ?_))
        · obtain ⟨e, he, rfl⟩ := List.mem_map.mp hy
          have : e ∈ es.toList := by
            have z : e ∈ es ∧ e.1 = hM P w k := by simpa using he
            simpa using z.1
          rw [R.val] at this
          obtain ⟨r', hr', rfl⟩ := List.mem_map.mp this
          exact ⟨r'.2, r'.1, rfl, R.tup r' hr'⟩
        · refine wp_if_neg (by decide) ?_
          try refine wpAny_bind (wpAny_pure ?_)
          exact go
    · rw [hp]; dsimp only
      refine wpAny_pure (no fun m => ?_)
      obtain ⟨r0, h0, e0⟩ := List.mem_map.mp m
      obtain ⟨i0, l0, g0⟩ := List.getElem_of_mem h0
      have z1 : L[i0]? = some r0 := by rw [List.getElem?_eq_getElem l0, g0]
      obtain ⟨q0, b1, b2, b3⟩ := re i0 r0 z1 e0
      exact hno q0 i0 r0 b1 b2 b3 z1 (congrArg _ e0)
/-- looking for a tuple to be added -/
theorem look (R : Has P w s.heap a L es ep t) {x : Addr} {k : List Key} (hx : IsM P w s.heap k x) (hu : A.units < cLine) {Q : SetFound → Shared → Prop} (yes : k ∈ L.map (·.2) → Q (.there none) s)
    (no : ∀ K, k ∉ L.map (·.2) → way t.mask (hM P w k) K ∉ t.place.toList → (∀ c, c < K → way t.mask (hM P w k) c ∈ t.place.toList) → Q (.free (way t.mask (hM P w k) K) false) s) :
    wpAny (model P w) A (setSearch a (.ref x) (hM P w k) true) Q E s := by
  have rm := R.room
  obtain ⟨K, k1, k2, k3⟩ := R.tab.first (by rw [List.length_map]; omega) (hM P w k)
  have tn : 10 * SetTable.turns t.mask ≤ 1420 := by rw [SetTable.turns]; rcases R.tab.mok with e | e | e <;> omega
  rw [setSearch]
  refine look_from R hx hu k1 k2 k3 yes (fun m => no K m k2 k3) 100000 0 none rfl (Nat.zero_le _) (by omega) fun i r e1 e2 => ?_
  have il : i < t.place.toList.length := by
    have h1 := (List.getElem?_eq_some_iff.mp e1).1
    have h2 := R.tab.sz
    rw [List.length_map] at h2
    rw [Array.length_toList]; omega
  obtain ⟨q, hq, e⟩ := R.tab.before (h := hM P w k) k2 (by rw [List.getElem?_map, e1, ← e2]; rfl) (List.getElem?_eq_getElem il)
  exact ⟨q, Nat.zero_le _, hq, by rw [List.getElem?_eq_getElem il, e]⟩
end
end MS
set_option maxHeartbeats 1000000
/-! MS2: sets of tuples of ints and texts: adding. -/
namespace MS
open PySem PySem.Spec PyProof.Rows L2
section
variable {P : Program} {w : World} {A : Around} {E : Value → Shared → Prop} {s : Shared}
variable {a : Addr} {L : List Row} {es : Array (Int × Value)} {ep : Nat} {t : SetTable}
theorem fm_same {α β : Type} {f g : α → Option β} : ∀ {l : List α}, (∀ x ∈ l, f x = g x) → l.filterMap f = l.filterMap g
  | [], _ => rfl
  | x :: l, h => by rw [List.filterMap_cons, List.filterMap_cons, h x List.mem_cons_self, fm_same fun y hy => h y (List.mem_cons_of_mem _ hy)]
theorem fm_some {α β : Type} (g : α → β) : ∀ l : List α, l.filterMap (fun x => some (g x)) = l.map g
  | [] => rfl
  | x :: l => by rw [List.filterMap_cons, fm_some g l]; rfl
theorem fm_range {α : Type} (l : List α) : (List.range l.length).filterMap (fun i => l[i]?) = l := by
  have : ∀ n, n ≤ l.length → (List.range n).filterMap (fun i => l[i]?) = l.take n := fun n => by
    induction n with
    | zero => exact fun _ => rfl
    | succ n ih => exact fun h => by rw [List.range_succ, List.filterMap_append, ih (by omega), List.take_succ, List.getElem?_eq_getElem h]; rw [List.filterMap_cons_some (List.getElem?_eq_getElem h)]; rfl
  rw [this _ (Nat.le_refl _), List.take_length]
theorem val_any (h : es.toList = rowVs P w L) (i : Nat) : es[i]? = (L[i]?).map fun r => (hM P w r.2, Value.ref r.1) := by
  rw [← Array.getElem?_toList, h, rowVs, List.getElem?_map]
theorem laid_rows (h : es.toList = rowVs P w L) (order : Array Nat) (pm : order.toList.Perm (List.range L.length)) :
    ∃ L2 : List Row, (order.filterMap (es[·]?)).toList = rowVs P w L2 ∧ L2.Perm L ∧ (L2.map fun r => hM P w r.2) = order.toList.map fun i => (es.map (·.1)).getD i 0 := by
  refine ⟨order.toList.filterMap (fun i => L[i]?), ?_, ?_, ?_⟩
  · have e : (order.filterMap (es[·]?)).toList = order.toList.filterMap fun i => es[i]? := by first | exact Array.toList_filterMap .. | simp
    rw [e, rowVs, List.map_filterMap]
    exact fm_same fun i _ => val_any h i
  · have := pm.filterMap (fun i => L[i]?)
    rwa [fm_range] at this
  · rw [List.map_filterMap, ← fm_some]
    refine fm_same fun i hi => ?_
    have il := List.mem_range.mp (pm.mem_iff.mp hi)
    have e1 := val_at h (List.getElem?_eq_getElem il)
    have e2 : (es.map (·.1))[i]? = some (hM P w L[i].2) := by rw [Array.getElem?_map, e1]; rfl
    rw [List.getElem?_eq_getElem il, Array.getD_eq_getD_getElem?, e2]; rfl
theorem other {h h' : Heap} {k : List Key} {b : Addr} {o : Obj} (hb : IsM P w h k b) (at1 : h.get? a = some o) (dt : o.data = .set es ep t) (sb : Heap.SameBut a h h') : IsM P w h' k b := by
  obtain ⟨o', its, n, at2, cl, dt2, it⟩ := hb
  refine ⟨o', its, n, (sb.2 b fun e => ?_).trans at2, cl, dt2, it⟩
  rw [e, at1] at at2
  rw [← Option.some.inj at2, dt] at dt2
  exact nomatch dt2
theorem grow {o : Obj} (at1 : s.heap.get? a = some o) (ex : o.ExactSet) (dt : o.data = .set es ep t) (val : es.toList = rowVs P w L) (sz : t.place.size = es.size) (dm : t.dummies = #[]) (fl : es.size ≤ t.mask)
    (nd : (L.map (·.2)).Nodup) (tup : ∀ r ∈ L, IsM P w s.heap r.2 r.1) (ld : w.params.followText "set-order" = true ∨ t.led = true) (few : L.length < 64) {n M : Nat}
    (hw : SetTable.sizeAbove n - 1 = M) (hM' : MaskOk M) (h128 : SetTable.sizeAbove n ≤ 128) (rm : L.length * 5 < M * 3) {Q : Unit → Shared → Prop}
    (q : ∀ h' L' es' ep' t', Heap.SameBut a s.heap h' → Has P w h' a L' es' ep' t' → L'.Perm L → Q () { s with heap := h' }) : wpAny (model P w) A (setRelay a n) Q E s := by
  have sl := val_size val
  have fi : t.fits es.size = true := by
    simp only [SetTable.fits, SetTable.fill, dm, Bool.and_eq_true, beq_iff_eq, decide_eq_true_eq]
    exact ⟨sz, show t.place.size + 0 ≤ t.mask by omega⟩
  obtain ⟨t', order, e, pm, T, em, el, _, _⟩ := relaid_ok t (hs := es.map (·.1)) (wanted := n) hw hM' (by rw [Array.size_map]; omega)
  rw [Array.size_map, sl] at pm
  obtain ⟨L2, r1, r2, r3⟩ := laid_rows val order pm
  rw [← r3] at T
  have s2 : (order.filterMap (es[·]?)).size = es.size := by rw [val_size r1, r2.length_eq, sl]
  rw [setRelay_eq]
  refine wpAny_bind (wpAny_setState_of at1 dt fi ?_); dsimp only
  refine wp_if_neg (by rw [sizeLine_eq]; omega) ?_
  try refine wpAny_bind (wpAny_pure ?_)
  rw [e]; dsimp only
  refine wpAny_bind (wp_if_neg (by rw [s2]; simp) ?_)
  try refine wpAny_bind (wpAny_pure ?_)
  refine wpAny_pure ?_; dsimp only
  refine wpAny_storeSet_of at1 dt ?_ (by rw [s2, sizeLine_eq]; omega)
  have sb : Heap.SameBut a s.heap (s.heap.update a (Obj.putSet (order.filterMap (es[·]?)) t')) := Heap.SameBut.update ..
  exact q _ L2 _ (ep + 1) t' sb ⟨⟨_, store_at at1 dt, ⟨ex.1, ex.2.1, ex.2.2⟩, rfl⟩, r1, T, (r2.map (·.2)).nodup_iff.mpr nd, fun r hr => other (tup r (r2.mem_iff.mp hr)) at1 dt sb, by rw [el]; exact ld, by rw [r2.length_eq, em]; exact rm, by rw [r2.length_eq]; exact few⟩ r2
theorem ins_perm {α : Type} (l : List α) (p : Nat) (x : α) : (l.take p ++ x :: l.drop p).Perm (x :: l) := by
  have : (l.take p ++ x :: l.drop p).Perm (x :: (l.take p ++ l.drop p)) := List.perm_middle
  rwa [List.take_append_drop] at this
/-- adding -/
theorem put_in (R : Has P w s.heap a L es ep t) {x : Addr} {k : List Key} (hx : IsM P w s.heap k x) (hu : A.units < cLine) (few : L.length + 1 < 64) {Q : Bool → Shared → Prop}
    (q : ∀ b h' L' es' ep' t', Heap.SameBut a s.heap h' → Has P w h' a L' es' ep' t' → (k ∈ L.map (·.2) → L' = L) → (k ∉ L.map (·.2) → L'.Perm ((x, k) :: L)) → Q b { s with heap := h' }) :
    wpAny (model P w) A (setAddHashed a (.ref x) (hM P w k)) Q E s := by
  obtain ⟨o, at1, ex, dt⟩ := R.obj
  have sl := val_size R.val
  have rm := R.room
  unfold setAddHashed
  refine wpAny_holding ?_
  rw [show (100000 : Nat) = 99999 + 1 from rfl, setAddHashedIn_succ]; refine wpAny_bind (wpAny_setState_of at1 dt R.fits ?_); dsimp only
  refine wp_if_neg (by simp [byScan, Value.scannable]) ?_
  try refine wpAny_bind (wpAny_pure ?_)
  refine wpAny_bind (look R hx hu (fun m => ?_) fun K m hK hb => ?_)
  · dsimp only
    exact wpAny_pure (q false s.heap L es ep t (Heap.SameBut.refl a s.heap) R (fun _ => rfl) fun z => absurd m z)
  · dsimp only
    refine wpAny_bind (wpAny_setState_of at1 dt R.fits ?_); dsimp only
    obtain ⟨q1, q2, q3, q4, q5, q6, q7, q8, q9⟩ := R.tab.put hK hb
    generalize hpt : t.put (way t.mask (hM P w k) K) = pt at q1 q3 q4 q5 q6 q7 q8 q9 ⊢
    obtain ⟨t1, p1⟩ := pt
    dsimp only at q1 q3 q4 q5 q6 q7 q8 q9 ⊢
    subst q1
    have vin : (SetTable.insertAt es (SetTable.below t.place (way t.mask (hM P w k) K)) (hM P w k, Value.ref x)).toList = rowVs P w (L.take (SetTable.below t.place (way t.mask (hM P w k) K)) ++ (x, k) :: L.drop (SetTable.below t.place (way t.mask (hM P w k) K))) := by
      rw [SetTable.toList_insertAt, R.val]
      simp only [rowVs, List.map_append, List.map_cons, List.map_take, List.map_drop]
    generalize SetTable.below t.place (way t.mask (hM P w k) K) = p at q2 q3 vin ⊢
    have pm := ins_perm L p (x, k)
    have hhs : (L.map fun r => hM P w r.2).take p ++ hM P w k :: (L.map fun r => hM P w r.2).drop p = (L.take p ++ (x, k) :: L.drop p).map fun r => hM P w r.2 := by
      simp only [List.map_append, List.map_cons, List.map_take, List.map_drop]
    rw [hhs] at q3
    have len := pm.length_eq
    have nd1 := (pm.map (·.2)).nodup_iff.mpr (by rw [List.map_cons]; exact List.nodup_cons.mpr ⟨m, R.nd⟩)
    have s1 := val_size vin
    generalize SetTable.insertAt es p (hM P w k, Value.ref x) = es1 at vin s1 ⊢
    generalize L.take p ++ (x, k) :: L.drop p = L1 at pm len q3 nd1 vin s1
    rw [List.length_cons] at len
    -- what follows, whether the hash goes by value or not
    have rest : ∀ t2 : SetTable, TabOk t2 (L1.map fun r => hM P w r.2) → t2.mask = t1.mask → t2.led = t1.led → t2.fill = t1.fill → wpAny (model P w) A (do
        storeSet a es1 t2
        if (!false && t2.tooFull) = true then setRelay a (SetTable.grown (es.size + 1))
        return true) Q E s := fun t2 T2 m2 l2 f2 => by
      refine wpAny_bind (wpAny_storeSet_of at1 dt ?_ (by rw [s1, sizeLine_eq]; omega))
      have sb : Heap.SameBut a s.heap (s.heap.update a (Obj.putSet es1 t2)) := Heap.SameBut.update ..
      have at2 := store_at (es' := es1) (t' := t2) at1 dt
      generalize s.heap.update a (Obj.putSet es1 t2) = h1 at sb at2 ⊢
      have tup1 : ∀ r ∈ L1, IsM P w h1 r.2 r.1 := fun r hr => by
        rcases List.mem_cons.mp (pm.mem_iff.mp hr) with rfl | hr
        · exact other hx at1 dt sb
        · exact other (R.tup r hr) at1 dt sb
      have ld : w.params.followText "set-order" = true ∨ t2.led = true := by rw [l2, q5]; exact R.led
      have fl2 : t2.fill = L.length + 1 := by rw [f2, q9, List.length_map]
      by_cases hf : t2.tooFull = true
      · have full : (L.length + 1) * 5 ≥ t2.mask * 3 := by
          have h := hf
          rw [SetTable.tooFull, decide_eq_true_eq, fl2] at h
          exact h
        have two : (t.mask = 7 ∧ L.length = 4) ∨ (t.mask = 31 ∧ L.length = 18) := by
          rw [m2, q4] at full
          rcases R.tab.mok with e | e | e <;> rw [e] at full rm
          · exact .inl ⟨e, by omega⟩
          · exact .inr ⟨e, by omega⟩
          · omega
        rw [sl]
        have go : ∀ M, SetTable.sizeAbove (SetTable.grown (L.length + 1)) - 1 = M → MaskOk M → SetTable.sizeAbove (SetTable.grown (L.length + 1)) ≤ 128 → (L.length + 1) * 5 < M * 3 → wpAny (model P w) A (setRelay a (SetTable.grown (L.length + 1))) (fun _ s' => wpAny (model P w) A (pure true) Q E s') E { s with heap := h1 } := fun M z1 z2 z3 z4 => by
          have sz2 := T2.sz
          rw [List.length_map] at sz2
          exact grow (s := { s with heap := h1 }) at2 ⟨ex.1, ex.2.1, ex.2.2⟩ rfl vin (by omega) T2.dm (by rw [s1, len, m2, q4]; omega) nd1 tup1 ld (by omega) z1 z2 z3 (by rw [len]; exact z4) fun h2 L2 es2 ep2 t3 sb2 R2 pm2 => wpAny_pure (q true h2 L2 es2 ep2 t3 (sb.trans sb2) R2 (fun z => absurd z m) fun _ => pm2.trans pm)
        have tail : wpAny (model P w) A (setRelay a (SetTable.grown (L.length + 1))) (fun _ s' => wpAny (model P w) A (pure true) Q E s') E { s with heap := h1 } := by
          rcases two with ⟨_, e2⟩ | ⟨_, e2⟩
          · exact go 31 (by rw [e2, size_20]) (.inr (.inl rfl)) (by rw [e2, size_20]; decide) (by omega)
          · exact go 127 (by rw [e2, size_76]) (.inr (.inr rfl)) (by rw [e2, size_76]; decide) (by omega)
        first
          | exact wpAny_bind (wp_if_pos (by simp [hf]) tail)
          | exact wp_if_pos (by simp [hf]) (wpAny_bind tail)
      · have R1 : Has P w h1 a L1 es1 (ep + 1) t2 := ⟨⟨_, at2, ⟨ex.1, ex.2.1, ex.2.2⟩, rfl⟩, vin, T2, nd1, tup1, ld, by
          have h := hf
          rw [SetTable.tooFull, decide_eq_true_eq, fl2] at h
          omega, by omega⟩
        have done : wpAny (model P w) A (pure true) Q E { s with heap := h1 } := wpAny_pure (q true h1 L1 es1 (ep + 1) t2 sb R1 (fun z => absurd z m) fun _ => pm)
        first
          | exact wp_if_neg (by simp [hf]) done
          | exact wpAny_bind (wp_if_neg (by simp [hf]) (wpAny_pure done))
    by_cases pl : t1.plain = true
    · first
        | (refine wpAny_bind ?_; refine wp_if_pos pl ?_; refine hash_tup hx fun b => ?_)
        | refine wp_if_pos pl (wpAny_bind (hash_tup hx fun b => ?_))
      cases b with
      | true => exact rest t1 q3 rfl rfl rfl
      | false => exact rest { t1 with plain := false } ⟨q3.ris, q3.dm, q3.sz, q3.mok, q3.bd, q3.reach⟩ rfl rfl rfl
    · first
        | (refine wpAny_bind ?_; refine wp_if_neg pl ?_; refine wpAny_pure ?_)
        | refine wp_if_neg pl (wpAny_bind (wpAny_pure ?_))
      exact rest t1 q3 rfl rfl rfl
end
end MS
set_option maxHeartbeats 3200000
/-! MS3: set(xs), xs a list of tuples of ints and texts. -/
namespace MS
open PySem PySem.Spec PyProof.Rows L2
/-- what the set has from the first i rows -/
structure From (ks : List Row) (i : Nat) (L : List Row) : Prop where
  sub : ∀ r ∈ L, r ∈ ks.take i
  all : ∀ r ∈ ks.take i, r.2 ∈ L.map (·.2)
  len : L.length ≤ i
theorem From.nil (ks : List Row) : From ks 0 [] := ⟨fun _ h => (nomatch h), fun r h => (by simp at h), Nat.le_refl _⟩
theorem take_one {α : Type} {l : List α} {i : Nat} {x : α} (h : l[i]? = some x) : l.take (i + 1) = l.take i ++ [x] := by rw [List.take_succ, h]; rfl
theorem From.more {ks L L' : List Row} {i : Nat} {x : Row} (g : From ks i L) (h : ks[i]? = some x) (c : (x.2 ∈ L.map (·.2) → L' = L) ∧ (x.2 ∉ L.map (·.2) → L'.Perm (x :: L))) : From ks (i + 1) L' := by
  rcases Classical.em (x.2 ∈ L.map (·.2)) with m | m
  · rw [c.1 m]
    refine ⟨fun r hr => by rw [take_one h]; exact List.mem_append_left _ (g.sub r hr), fun r hr => ?_, Nat.le_succ_of_le g.len⟩
    rw [take_one h] at hr
    rcases List.mem_append.mp hr with z | z
    · exact g.all r z
    · rw [List.mem_singleton.mp z]; exact m
  · have pm := c.2 m
    refine ⟨fun r hr => ?_, fun r hr => ?_, by rw [pm.length_eq, List.length_cons]; exact Nat.succ_le_succ g.len⟩
    · rw [take_one h]
      rcases List.mem_cons.mp (pm.mem_iff.mp hr) with rfl | z
      · exact List.mem_append_right _ (List.mem_singleton.mpr rfl)
      · exact List.mem_append_left _ (g.sub r z)
    · rw [take_one h] at hr
      rw [(pm.map (·.2)).mem_iff, List.map_cons]
      rcases List.mem_append.mp hr with z | z
      · exact List.mem_cons_of_mem _ (g.all r z)
      · rw [List.mem_singleton.mp z]; exact List.mem_cons_self
section
variable {P : Program} {w : World} {A : Around} {E : Value → Shared → Prop} {s : Shared}
theorem stays {h h' : Heap} {k : List Key} {b : Addr} (x : IsM P w h k b) (kp : ∀ c o, h.get? c = some o → h'.get? c = some o) : IsM P w h' k b := by
  obtain ⟨o, its, n, at1, r⟩ := x
  exact ⟨o, its, n, kp b o at1, r⟩
theorem Has.stays {h h' : Heap} {a : Addr} {L : List Row} {es : Array (Int × Value)} {ep : Nat} {t : SetTable} (R : Has P w h a L es ep t) (ha : ∀ o, h.get? a = some o → h'.get? a = some o) (ht : ∀ r ∈ L, IsM P w h' r.2 r.1) : Has P w h' a L es ep t :=
  let ⟨o, at1, r⟩ := R.obj
  ⟨⟨o, ha o at1, r⟩, R.val, R.tab, R.nd, ht, R.led, R.room, R.few⟩
abbrev newT (w : World) : SetTable := .fresh 0 0 (!w.params.followText "set-order")
abbrev newO (w : World) : Obj := { cls := .type "set", dict := none, data := .set #[] 0 (newT w) }
theorem has_new {h : Heap} {a : Addr} (at1 : h.get? a = some (newO w)) : Has P w h a [] #[] 0 (newT w) :=
  ⟨⟨_, at1, ⟨rfl, rfl, rfl⟩, rfl⟩, rfl, ⟨List.Pairwise.nil, rfl, rfl, .inl rfl, fun x hx => (nomatch hx), fun i h j hi => by simp at hi⟩, List.nodup_nil, fun _ h => (nomatch h), by
    show _ ∨ (!w.params.followText "set-order") = true
    cases w.params.followText "set-order"
    · exact .inr rfl
    · exact .inl rfl, show 0 * 5 < 7 * 3 by decide, show 0 < 64 by decide⟩
/-- the loop of set.update -/
theorem feed {I : Addr} {fp wr : List Addr} {G : Array GenState → Array GenState → Prop} {n : Nat} {Pv : Nat → Value → Prop} {St : Nat → Shared → Prop} {R : Result → Shared → Prop}
    (W : WalksS P w A.in1 I fp wr G n Pv St) (S : Addr) (sf : S ∉ fp) (ks : List Row) (hn : n = ks.length) (few : ks.length < 64) (hv : ∀ i v, Pv i v → ∃ r, ks[i]? = some r ∧ v = .ref r.1)
    (h0 : Heap) (hk : ∀ r ∈ ks, IsM P w h0 r.2 r.1) (s0 : h0.get? S = none) (w0 : ∀ b ∈ wr, h0.get? b = none) (hu : A.in1.units < cLine) :
    ∀ (k i : Nat) (s : Shared), n - i = k → i ≤ n → St i s → (∀ b o, h0.get? b = some o → s.heap.get? b = some o) → (∃ L es ep t, Has P w s.heap S L es ep t ∧ From ks i L) →
      (∀ s' L es ep t, Moved (S :: wr) G s s' → Has P w s'.heap S L es ep t → From ks n L → (∀ b o, h0.get? b = some o → s'.heap.get? b = some o) → R (.ok (.ret .none)) s') →
      codeAny (model P w) A (.builtin "set.update.loop" ⟨[.ref S, .ref I], []⟩) R s := by
  have sw : S ∉ wr := fun h => sf (W.sub _ h)
  have up : ∀ b ∈ wr, b ∈ S :: wr := fun b hb => List.mem_cons_of_mem _ hb
  have old : ∀ {s s' : Shared}, Moved wr G s s' → (∀ b o, h0.get? b = some o → s.heap.get? b = some o) → ∀ b o, h0.get? b = some o → s'.heap.get? b = some o := fun hm kp b o e =>
    hm.heap b o (fun hb => by rw [w0 b hb] at e; cases e) (kp b o e)
  intro k
  induction k with
  | zero =>
    intro i s z1 z2 st kp ⟨L, es, ep, t, hs, g⟩ q
    obtain rfl : i = n := by omega
    refine codeAny_builtin F.entry_set_update_loop ?_
    rw [Around.under_plainId F.plain_set_update_loop _]
    show wpAny _ A.in1 (pyNext (.ref I) >>= _) _ _ s
    refine wpAny_bind (W.done s _ _ st fun s' hm => ?_)
    show wpAny _ A.in1 (ret Value.none) _ _ s'
    have kp' := old hm kp
    exact wpAny_pure (q s' L es ep t (hm.mono up) (hs.stays (fun o e => hm.heap S o sw e) fun r hr => stays (hk r (List.mem_of_mem_take (g.sub r hr))) kp') g kp')
  | succ k ih =>
    intro i s z1 z2 st kp ⟨L, es, ep, t, hs, g⟩ q
    have lt : i < n := by omega
    refine codeAny_builtin F.entry_set_update_loop ?_
    rw [Around.under_plainId F.plain_set_update_loop _]
    show wpAny _ A.in1 (pyNext (.ref I) >>= _) _ _ s
    refine wpAny_bind (W.item i s _ _ lt st fun v s' pv st' hm => ?_)
    obtain ⟨r, hr, rfl⟩ := hv i v pv
    have kp' := old hm kp
    have hs' : Has P w s'.heap S L es ep t := hs.stays (fun o e => hm.heap S o sw e) fun r hr => stays (hk r (List.mem_of_mem_take (g.sub r hr))) kp'
    have hx : IsM P w s'.heap r.2 r.1 := stays (hk r (List.mem_of_getElem? hr)) kp'
    show wpAny _ A.in1 (holding [Value.ref r.1] (setAdd S (.ref r.1)) >>= _) _ _ s'
    refine wpAny_bind (wpAny_holding ?_); unfold setAdd
    refine wpAny_holding (wpAny_bind (wpAny_pyHash_tuple hu hx ?_))
    refine put_in (s := { s' with toks := s'.toks + (r.2.length + 1) }) hs' hx hu (by have := g.len; omega) fun b h' L' es' ep' t' sb hs2 c1 c2 => ?_
    have kp2 : ∀ b o, h0.get? b = some o → h'.get? b = some o := fun b o e => (sb.2 b (fun z => by rw [z, s0] at e; cases e)).trans (kp' b o e)
    refine wpAny_pure ⟨plainId_quiet F.plain_set_update_loop _, ih (i + 1) _ (by omega) lt (W.frame _ s' _ _ st' (Nat.le_add_right _ _) fun b hb o e => (sb.2 b fun h => sf (h ▸ hb)).trans e) kp2 ⟨L', es', ep', t', hs2, g.more hr ⟨c1, c2⟩⟩ fun s'' L2 es2 ep2 t2 hm2 h2 g2 kp3 => ?_⟩
    exact q s'' L2 es2 ep2 t2 (Moved.trans W.gtrans ((hm.mono up).then_heap (Nat.le_add_right _ _) fun b o hb e => (sb.2 b fun h => hb (h ▸ List.mem_cons_self)).trans e) hm2) h2 g2 kp3
/-- set(xs) -/
theorem call_set {l : Addr} {items : Array Value} (ks : List Row) {Q : Value → Shared → Prop} (hh : A.handled = none) (hl : s.heap.IsList l items) (hit : items.toList = ks.map fun r => Value.ref r.1)
    (hk : ∀ r ∈ ks, IsM P w s.heap r.2 r.1) (few : ks.length < 64) (hu : A.units + 3 < cLine)
    (q : ∀ (h' : Heap) (tk : Nat) L es ep t, Has P w h' s.heap.objs.size L es ep t → From ks ks.length L → (∀ b o, s.heap.get? b = some o → h'.get? b = some o) → Q (.ref s.heap.objs.size) { s with heap := h', toks := tk }) :
    wpAny (model P w) A (call (.type "set") [.ref l]) Q E s := by
  have sz : items.size = ks.length := by rw [← Array.length_toList, hit, List.length_map]
  obtain ⟨c, tl, hmro⟩ := F.called_set.mro
  have hmade := F.called_set.made
  have hsub := F.called_set.sub
  refine wpAny_call (codeAny_of_tree ?_)
  show wpAny _ _ (callAny (.type "set") _) _ _ _
  refine wpAny_pure ⟨Code.quiet_builtin _ (by decide +kernel), codeAny_builtin F.entry_type_call ?_⟩
  rw [Around.under_plain (weight_type_call_type "set" [.ref l] []) rfl]
  have h1 := F.called_set.notType
  have h2 := F.called_set.canCreate
  have hct := F.typeCall_set_1 (.ref l)
  repeat any_goals first | assumption | wp_step
  refine codeAny_mono (code_set_led1 (.ref l) (E := E) (Q₁ := fun obj s₁ => obj = .ref s.heap.objs.size ∧ s₁ = { s with heap := s.heap.push (newO w) }) ⟨rfl, rfl⟩) fun r s₁ hr => ?_
  cases r with
  | error e => exact hr
  | ok fl =>
    cases fl with
    | ret obj =>
      obtain ⟨rfl, rfl⟩ := hr
      have hS : (s.heap.push (newO w)).get? s.heap.objs.size = some (newO w) := Heap.get?_push_size _ rfl
      have hT : Shared.TypeIs { s with heap := s.heap.push (newO w) } (.ref s.heap.objs.size) "set" := ⟨_, hS, rfl⟩
      have hli := F.called_set.init.lookup
      have hbi := F.called_set.init.bind (.ref s.heap.objs.size)
      repeat any_goals first | assumption | wp_step
      refine codeAny_mono (codeAny_call_builtin (R := wants (fun r s₂ => r = .none ∧ ∃ h' tk L es ep t, s₂ = { s with heap := h', toks := tk } ∧ Has P w h' s.heap.objs.size L es ep t ∧ From ks ks.length L ∧
          (∀ b o, s.heap.get? b = some o → h'.get? b = some o)) E) F.called_set.init.plain F.entry_set_init (check_set_init_1 hT ?_)) fun r₂ s₂ hr₂ => ?_
      · obtain ⟨ol, hol, hcl, nl, hdl⟩ := hl
        obtain ⟨ocls, odict, odata, oslots⟩ := ol
        simp only at hcl hdl
        subst hcl; subst hdl
        have hol' : (s.heap.push (newO w)).get? l = some { cls := .type "list", dict := odict, data := .seq items nl, slots := oslots } := Heap.get?_push_of_some _ hol
        have hsls := F.sub_list_set
        have hslf := F.sub_list_frozenset
        have hne : (Value.type "list" == Value.type "dict") = false := by decide
        have hl1 : (s.heap.push (newO w)).IsList l items := ⟨_, hol', rfl, nl, rfl⟩
        unfold Builtin.«set.__init__» noKeywords Builtin.Frozenset.updateFrom
        generalize hPI : pyIter = PI
        wp_walk
        subst hPI
        refine wpAny_pyIter_list hl1 ?_; refine wpAny_bind (wpAny_runValue ?_)
        have hlS : l < s.heap.objs.size := Heap.lt_size hol
        have hh3 : A.in1.in1.in1.handled = none := by simp [hh]
        have s1 : (s.heap.push (newO w)).objs.size = s.heap.objs.size + 1 := Heap.size_push ..
        have none_of : ∀ b, s.heap.objs.size ≤ b → s.heap.get? b = none := fun b hb => by
          cases z : s.heap.get? b with
          | none => rfl
          | some o => exact absurd (Nat.lt_of_lt_of_le (Heap.lt_size z) hb) (Nat.lt_irrefl _)
        have neI : l ≠ (s.heap.push (newO w)).objs.size := by rw [s1]; exact Nat.ne_of_lt (Nat.lt_succ_of_lt hlS)
        have hval : ∀ (i : Nat) (v : Value), items[i]? = some v → ∃ r, ks[i]? = some r ∧ v = .ref r.1 := fun i v hv => by
          rw [← Array.getElem?_toList, hit, List.getElem?_map] at hv
          obtain ⟨r, e1, e2⟩ := Option.map_eq_some_iff.mp hv
          exact ⟨r, e1, e2.symm⟩
        refine feed ((Walks.list hh3 _ l neI items).toS) s.heap.objs.size (by rw [s1]; simp only [List.mem_cons, List.not_mem_nil, or_false, not_or]; exact ⟨Nat.ne_of_lt (Nat.lt_succ_self _), Nat.ne_of_gt hlS⟩) ks sz few hval s.heap hk (none_of _ (Nat.le_refl _))
          (fun b hb => none_of b (by rw [List.mem_singleton.mp hb, s1]; exact Nat.le_succ _)) hu (items.size - 0) 0 _ (by omega) (Nat.zero_le _) ⟨⟨_, Heap.get?_push_size _ rfl, rfl, rfl⟩, (hl1.push _)⟩ (fun b o e => Heap.get?_push_of_some _ (Heap.get?_push_of_some _ e)) ?hS0 ?hR
        case hS0 =>
          have at2 : ((s.heap.push (newO w)).push { cls := .type "list_iterator", data := .fields #[.ref l, .int 0 0] }).get? s.heap.objs.size = some (newO w) := Heap.get?_push_of_some _ hS
          exact ⟨[], #[], 0, _, has_new at2, From.nil ks⟩
        case hR =>
          intro s' L es ep t hm hS' g' kp
          obtain ⟨h', g2, d', tk', os'⟩ := s'
          obtain rfl : g2 = s.gens := hm.gens
          obtain rfl : d' = s.drawn := hm.drawn
          obtain rfl : os' = s.os := hm.os
          show wpAny _ _ _ _ _ _
          refine wpAny_pure ?_
          show wpAny _ _ (ret Value.none) _ _ _
          rw [sz] at g'
          exact wpAny_pure ⟨rfl, h', tk', L, es, ep, t, rfl, hS', g', kp⟩
      · cases r₂ with
        | error e => exact hr₂
        | ok fl₂ =>
          cases fl₂ with
          | ret r =>
            obtain ⟨rfl, h', tk, L, es, ep, t, rfl, hS', g', kp⟩ := hr₂
            repeat any_goals first | assumption | wp_step
            exact q _ _ _ _ _ _ hS' g' kp
          | _ => exact hr₂.elim
    | _ => exact hr.elim
end
end MS
set_option maxHeartbeats 1000000
/-! RE13r: sorted(set(xs)), xs a list of tuples of ints and texts. -/
namespace KS
open PySem PySem.Spec PyProof.Rows L2
section
variable {P : Program} {w : World} {A : Around} {E : Value → Shared → Prop} {s : Shared}
/-- sorted(x), the things of x coming in some order -/
theorem sorted_any {α : Type} {enc : α → PyData} {bs : List α} {R : Value → α → Prop} {G : List Value → Prop} {x : Value} {Q : Value → Shared → Prop}
    (col : ∀ K : List Value → Shared → Prop, (∀ s' vs, (∀ b o, s.heap.get? b = some o → s'.heap.get? b = some o) → s.heap.objs.size ≤ s'.heap.objs.size → s'.gens = s.gens → s'.os = s.os → G vs → K vs s') → wpAny (model P w) A.in1 (collect x) K E s)
    (per : ∀ vs, G vs → ∃ b2 : List α, b2.Perm bs ∧ PySem.W.EachIs R vs b2 ∧ PySem.W.EachIs (fun v b => ∃ as, Reads s.heap v (enc b) as) vs b2) (hal : PySem.W.AllAlike (bs.map enc)) (hk : Sort2 (bs.map enc)) (hL : bs.length ≤ sizeLine) (hu : ∀ b ∈ bs, A.units + 8 + (enc b).depth < cLine)
    (hQ : ∀ s' p (out : Array Value) (c : Nat) (b2 : List α), (∀ b o, s.heap.get? b = some o → s'.heap.get? b = some o) → s'.gens = s.gens → s'.os = s.os → s.heap.objs.size ≤ p → s'.heap.get? p = some (seqObj "list" out c) → b2.Perm bs → PySem.W.EachIs R out.toList (b2.mergeSort (PySem.W.dataLe false enc)) → Q (.ref p) s') :
    wpAny (model P w) A (call (.builtin "sorted") [x]) Q E s := by
  refine Calls.call_function_entry kind_sorted plain_sorted entry_sorted (args_sorted1 _) ?_
  unfold Builtin.«sorted»
  refine wpAny_bind (m := checkCount "sorted" 1 1 _) (wpAny_pure ?_)
  refine wpAny_bind (col _ fun s1 vs k1 hz g1 o1 gv => ?_)
  obtain ⟨b2, pm, e, er⟩ := per vs gv
  have sub : ∀ b, b ∈ b2.map enc → b ∈ bs.map enc := fun b hb => (pm.map enc).mem_iff.mp hb
  refine wpAny_bind (wpAny_newList ?_ (by rw [e.length, pm.length_eq]; exact hL))
  have hL2 : (s1.heap.push (seqObj "list" vs.toArray 0)).get? s1.heap.objs.size = some (seqObj "list" vs.toArray 0) := Heap.get?_push_size _ rfl
  refine wpAny_bind (wpAny_holding (list_sort2 (s := { s1 with heap := s1.heap.push (seqObj "list" vs.toArray 0) }) (enc := enc) hL2 e (er.mono fun v b h => ?_) (fun d hd d' hd' => hal d (sub d hd) d' (sub d' hd')) ?_ (by rw [pm.length_eq]; exact hL) ?_ fun out ho eo => ?_))
  · obtain ⟨as, h1⟩ := h
    refine ⟨as, Reads.keeps (fun b o q => Heap.get?_push_of_some _ (k1 b o q)) h1, fun hm => ?_⟩
    obtain ⟨o, q⟩ := PyProof.On.reads_mem_get h1 _ hm
    exact absurd (Heap.lt_size q) (Nat.not_lt.mpr hz)
  · rcases hk with (hk | hk) | hk
    · exact .inl (.inl fun d hd => hk d (sub d hd))
    · exact .inl (.inr fun d hd => hk d (sub d hd))
    · exact .inr fun d hd => hk d (sub d hd)
  · intro b hb
    have := hu b (pm.mem_iff.mp hb)
    first
      | exact (show A.units + 1 + (enc b).depth < cLine by omega)
      | exact (show A.units + 1 + 1 + (enc b).depth < cLine by omega)
      | exact (show A.units + 1 + 1 + 1 + (enc b).depth < cLine by omega)
      | exact (show A.units + 1 + 1 + 1 + 1 + (enc b).depth < cLine by omega)
  · obtain ⟨c, hc⟩ := sortedHeap_at (vs := vs) (out := List.toArray out) hL2
    refine wpAny_pure ⟨_, rfl, hQ _ s1.heap.objs.size (List.toArray out) c b2 (fun b u e => ?_) g1 o1 hz hc pm eo⟩
    have z := k1 b u e
    have lt := Heap.lt_size z
    show (sortedHeap (s1.heap.push (seqObj "list" vs.toArray 0)) s1.heap.objs.size vs (List.toArray out)).get? b = some u
    rw [sortedHeap_old (Nat.ne_of_lt lt) (by rw [size_push']; exact Nat.lt_succ_of_lt lt)]
    exact Heap.get?_push_of_some _ z
end
end KS
namespace MS
open PySem PySem.Spec PyProof.Rows L2
/-- the set at a, without its tuples -/
def Set0 (P : Program) (w : World) (h : Heap) (a : Addr) (L : List Row) : Prop := ∃ es ep t, (∃ o, h.get? a = some o ∧ o.ExactSet ∧ o.data = .set es ep t) ∧ es.toList = rowVs P w L ∧ TabOk t (L.map fun r => hM P w r.2) ∧ (L.map (·.2)).Nodup ∧
  (w.params.followText "set-order" = true ∨ t.led = true) ∧ L.length * 5 < t.mask * 3 ∧ L.length < 64
def MsO (P : Program) (w : World) (a : Addr) (L : List Row) : HO := .ext fun h => Set0 P w h a L
theorem Has.set0 {P : Program} {w : World} {h : Heap} {a : Addr} {L : List Row} {es : Array (Int × Value)} {ep : Nat} {t : SetTable} (R : Has P w h a L es ep t) : Set0 P w h a L := ⟨es, ep, t, R.obj, R.val, R.tab, R.nd, R.led, R.room, R.few⟩
theorem ms_new {P : Program} {w : World} {H : Hp} {h : Heap} {a : Addr} {L : List Row} (R : Set0 P w h a L) : ObjOk P w H h a (MsO P w a L) := by
  obtain ⟨es, ep, t, ⟨o, ho, r⟩, q⟩ := id R
  refine ⟨R, ⟨o, ho⟩, fun h1 h2 p k => ?_⟩
  obtain ⟨es', ep', t', ⟨o', ho', r'⟩, q'⟩ := id p
  exact ⟨es', ep', t', ⟨o', k o' ho', r'⟩, q'⟩
theorem items_kv {P : Program} {w : World} : ∀ {k : List Key} {us : List Value}, Vals (k.map kV) us → ItemsAre (mixKind P w) k us
  | [], _, .nil => .nil
  | _ :: _, _, .cons r t => .cons (kV_is r) (items_kv t)
theorem refs_kv : ∀ {ks : List Row} {us : List Value}, Vals (ks.map fun p => V.ref p.1) us → us = ks.map fun p => Value.ref p.1
  | [], _, .nil => rfl
  | _ :: _, _, .cons r t => by cases r; rw [refs_kv t]; rfl
section
variable {X : Cx} {pins : List (Addr × Obj)} {σ : L2.St} {H : Hp} {s : Shared}
theorem isM_at (I : Inv X pins σ H s) {b : Addr} {k : List Key} (h : SqT X.K H b (k.map kV)) : IsM X.prog X.w s.heap k b := by
  obtain ⟨its, r, ⟨o, ho, hc, n, hd⟩, _⟩ := I.tuple h
  exact ⟨o, its.toArray, n, ho, hc, hd, by simpa using items_kv r⟩
def rSetM (K : PySem.W.Frag) (P : Program) (w : World) : List V → Hp → VK → Prop := fun xs H Q => ∃ (l : Addr) (ks : List Row), xs = [V.ref l] ∧ SqL K H l (ks.map fun p => V.ref p.1) ∧ (∀ p ∈ ks, SqT K H p.1 (p.2.map kV)) ∧ ks.length < 64 ∧
  ∀ a L, H a = none → (∀ p ∈ L, p ∈ ks) → (∀ p ∈ ks, p.2 ∈ L.map (·.2)) → (L.map (·.2)).Nodup → Q (.ref a) (upd H a (MsO P w a L))
theorem cr_setM (hc : X.calm = true) (hu : X.A.units + 64 < cLine) : CallR X (.type "set") (rSetM X.K X.prog X.w) := by
  intro pins s σ H xs us Q I r h
  obtain ⟨l, ks, rfl, hl, hk, hf, q⟩ := h
  rw [Vals.ref1 r]
  obtain ⟨its, rv, pl, hz⟩ := I.list hl
  refine call_set (P := X.prog) (w := X.w) ks (I.ok.hd hc) pl.isList (by simpa using refs_kv rv) (fun p hp => isM_at I (hk p hp)) hf (by omega) fun h' tk L es ep t R g k => ?_
  refine ⟨.ref s.heap.objs.size, upd H s.heap.objs.size (MsO X.prog X.w s.heap.objs.size L), I.laid (t' := tk) k (Nat.le_refl _) (ms_new R.set0), rfl, q _ L (I.hok.fresh (Nat.le_refl _)) (fun p hp => List.mem_of_mem_take (g.sub p hp)) (fun p hp => g.all p (by rw [List.take_length]; exact hp)) R.nd⟩
open RE (D toP)
/-- sorted(set) by what the rows denote -/
def rSortM (K : PySem.W.Frag) (P : Program) (w : World) : List V → Hp → VK → Prop := fun vs H Q => ∃ (a : Addr) (ps : List (D × Row)), vs = [V.ref a] ∧ H a = some (MsO P w a (ps.map (·.2))) ∧ (∀ p ∈ ps, SqT K H p.2.1 (p.2.2.map kV) ∧ Dp K H (.ref p.2.1) (toP p.1) ∧ (toP p.1).depth ≤ 60) ∧ PySem.W.AllAlike (ps.map fun p => toP p.1) ∧ KS.Sort2 (ps.map fun p => toP p.1) ∧
  ∀ p (ps' : List (D × Row)), H p = none → ps'.Perm ps → Q (.ref p) (upd H p (.lst ((ps'.mergeSort (PySem.W.dataLe false fun p => toP p.1)).map fun p => V.ref p.2.1)))
theorem perm_back {α β : Type} (f : α → β) : ∀ {vs : List β} {ps : List α}, vs.Perm (ps.map f) → ∃ b2 : List α, b2.Perm ps ∧ vs = b2.map f
  | [], ps, h => by
    have : ps = [] := List.map_eq_nil_iff.mp (List.nil_perm.mp h)
    exact ⟨[], by rw [this], rfl⟩
  | v :: vs, ps, h => by
    obtain ⟨p, hp, rfl⟩ := List.mem_map.mp (h.mem_iff.mp List.mem_cons_self)
    obtain ⟨l1, l2, rfl⟩ := List.append_of_mem hp
    have pm : (l1 ++ p :: l2).Perm (p :: (l1 ++ l2)) := List.perm_middle
    have h2 := h.trans (pm.map f)
    rw [List.map_cons] at h2
    obtain ⟨b2, e1, e2⟩ := perm_back f (List.Perm.cons_inv h2)
    exact ⟨p :: b2, (e1.cons p).trans pm.symm, by rw [e2, List.map_cons]⟩
theorem each_row {K : PySem.W.Frag} (I : L2.Inv X pins σ H s) : ∀ {ps : List (D × Row)}, (∀ p ∈ ps, Dp X.K H (.ref p.2.1) (toP p.1)) →
    PySem.W.EachIs (fun u p => RelV (V.ref p.2.1) u) (ps.map fun p => Value.ref p.2.1) ps ∧ PySem.W.EachIs (fun u p => ∃ as, Reads s.heap u (toP p.1) as) (ps.map fun p => Value.ref p.2.1) ps
  | [], _ => ⟨.nil, .nil⟩
  | p :: ps, h => by
    obtain ⟨h1, h2⟩ := each_row (K := K) I fun q hq => h q (List.mem_cons_of_mem _ hq)
    have r1 : RelV (V.ref p.2.1) (Value.ref p.2.1) := rfl
    exact ⟨.cons r1 h1, .cons (Dp.reads I _ _ _ (h p List.mem_cons_self) r1) h2⟩
theorem vals_row : ∀ {us : List Value} {ps : List (D × Row)}, PySem.W.EachIs (fun u p => RelV (V.ref p.2.1) u) us ps → Vals (ps.map fun p => V.ref p.2.1) us
  | _, _, .nil => .nil
  | _, _, .cons h t => .cons h (vals_row t)
theorem cr_sortM (hc : X.calm = true) (hu : X.A.units + 128 < cLine) : CallR X (.builtin "sorted") (rSortM X.K X.prog X.w) := by
  intro pins s σ H vs us Q I r h
  obtain ⟨a, ps, rfl, ha, hd, hal, hk, q⟩ := h
  obtain ⟨es, ep, t, ⟨o, ho, hex, hdt⟩, val, tab, nd, led, room, few⟩ : Set0 X.prog X.w s.heap a (ps.map (·.2)) := (I.hok a _ ha).1
  have R : Has X.prog X.w s.heap a (ps.map (·.2)) es ep t := ⟨⟨o, ho, hex, hdt⟩, val, tab, nd, fun r hr => by
    obtain ⟨p, hp, rfl⟩ := List.mem_map.mp hr
    exact isM_at I (hd p hp).1, led, room, few⟩
  rw [Vals.ref1 r]
  rw [List.length_map] at few
  have hsz := val_size R.val
  have hes : es.toList.map (·.2) = ps.map fun p => Value.ref p.2.1 := by
    rw [R.val, rowVs, List.map_map, List.map_map]; rfl
  refine KS.sorted_any (R := fun u p => RelV (V.ref p.2.1) u) (bs := ps) (enc := fun p : D × Row => toP p.1) (G := fun vs => vs.Perm (ps.map fun p => Value.ref p.2.1)) (fun K hK => ?_) (fun vs pm => ?_) hal hk (by rw [sizeLine_eq]; omega) (fun p hp => by have := (hd p hp).2.2; omega) fun s' p out c b2 kp g1 o1 hz' hc' pm eo => ?_
  · refine collect_set (I.ok.hd hc) ⟨o, ho, hex.1, hdt⟩ R.fits (by rw [hsz, List.length_map, scanBound]; omega) R.tab.ris R.led fun s1 vs k1 hz g1 o1 pm => ?_
    rw [hes] at pm
    exact hK s1 vs k1 hz g1 o1 pm
  · obtain ⟨b2, e1, rfl⟩ := perm_back (fun p : D × Row => Value.ref p.2.1) pm
    obtain ⟨c1, c2⟩ := each_row (K := X.K) I (ps := b2) fun p hp => (hd p (e1.mem_iff.mp hp)).2.1
    exact ⟨b2, e1, c1, c2⟩
  · have hv := vals_row eo
    have hn : H p = none := I.hok.fresh hz'
    have hlen : ((b2.mergeSort (PySem.W.dataLe false fun p => toP p.1)).map fun p => V.ref p.2.1).length ≤ sizeLine := by
      rw [List.length_map, List.length_mergeSort, pm.length_eq, sizeLine_eq]; omega
    have J : L2.Inv X pins σ (upd H p (.lst ((b2.mergeSort (PySem.W.dataLe false fun p => toP p.1)).map fun p => V.ref p.2.1))) { s with heap := s'.heap, gens := s'.gens, drawn := s'.drawn, toks := s'.toks } :=
      I.call (ch := []) (Un.laid kp hz' hn) (I.hok.laid kp hz' ⟨hlen, out.toList, c, hv, hc'⟩) (by rw [g1]; exact I.bare) (fun _ z => nomatch z)
    have e : s' = { s with heap := s'.heap, gens := s'.gens, drawn := s'.drawn, toks := s'.toks } := by
      cases s'; cases s; cases o1; rfl
    rw [e]
    exact ⟨.ref p, _, J, rfl, q p b2 hn pm⟩
end
end MS
namespace RE
open PySem PySem.Spec PyProof.Rows L2 MS
def kD (k : List Key) : D := .tup (k.map keyD)
def keysT : List D → Option (List (List Key))
  | [] => some []
  | d :: ds => (keyT d).bind fun k => (keysT ds).map (k :: ·)
def nubL {α : Type} [DecidableEq α] : List α → List α
  | [] => []
  | a :: l => if a ∈ l then nubL l else a :: nubL l
theorem nubL_mem {α : Type} [DecidableEq α] : ∀ {l : List α} {x : α}, x ∈ nubL l ↔ x ∈ l
  | [], x => Iff.rfl
  | a :: l, x => by
    unfold nubL
    split
    · rename_i h
      rw [nubL_mem, List.mem_cons]
      exact ⟨.inr, fun q => q.elim (fun e => e ▸ h) id⟩
    · rw [List.mem_cons, List.mem_cons, nubL_mem]
theorem nubL_nodup {α : Type} [DecidableEq α] : ∀ l : List α, (nubL l).Nodup
  | [] => List.nodup_nil
  | a :: l => by
    unfold nubL
    split
    · exact nubL_nodup l
    · rename_i h
      exact List.nodup_cons.mpr ⟨fun q => h (nubL_mem.mp q), nubL_nodup l⟩
noncomputable def setSortTL (xs : List D) : Option D := (keysT xs).bind fun ks => if sortOk ((nubL ks).map kD) && decide (ks.length < 64) then some (.lst (sortL ((nubL ks).map kD))) else none
/-- sorted(set(xs)) of tuples -/
noncomputable def setSortT : D → Option D
  | .lst xs => setSortTL xs
  | _ => none
theorem keysT_some : ∀ {xs : List D} {ks : List (List Key)}, keysT xs = some ks → xs = ks.map kD
  | [], ks, h => by cases h; rfl
  | d :: xs, ks, h => by
    obtain ⟨k, e1, e2⟩ := Option.bind_eq_some_iff.mp h
    obtain ⟨l, e3, rfl⟩ := Option.map_eq_some_iff.mp e2
    rw [keyT_some e1, keysT_some e3]; rfl
theorem rows_of {P : Addr → Prop} {H : Hp} : ∀ {ks : List (List Key)} {vs : List V}, RepL P H (ks.map kD) vs → ∃ rs : List MS.Row, rs.map (·.2) = ks ∧ vs = rs.map (fun r => V.ref r.1) ∧ ∀ r ∈ rs, H r.1 = some (.tup (r.2.map kV)) ∧ Rep P H (kD r.2) (.ref r.1)
  | [], vs, h => by simp only [List.map_nil, RepL] at h; subst h; exact ⟨[], rfl, rfl, fun _ q => nomatch q⟩
  | k :: ks, vs, h => by
    simp only [List.map_cons, RepL] at h
    obtain ⟨v, r, rfl, h1, h2⟩ := h
    obtain ⟨rs, rfl, rfl, h3⟩ := rows_of h2
    have h1' := h1
    unfold kD at h1'
    simp only [Rep] at h1'
    obtain ⟨b, us, rfl, hb, hl⟩ := h1'
    have := hl.keys
    subst this
    refine ⟨(b, k) :: rs, rfl, rfl, fun r hr => ?_⟩
    rcases List.mem_cons.mp hr with rfl | hr
    · exact ⟨hb, h1⟩
    · exact h3 r hr
theorem eqvAll_keys : ∀ k l : List Key, PyData.eqvAll (toPs (k.map keyD)) (toPs (l.map keyD)) = true → k = l
  | [], [], _ => rfl
  | [], _ :: _, h => by simp [toPs, PyData.eqvAll] at h
  | _ :: _, [], h => by simp [toPs, PyData.eqvAll] at h
  | a :: k, b :: l, h => by
    simp only [List.map_cons, toPs, PyData.eqvAll, Bool.and_eq_true] at h
    rw [eqvAll_keys k l h.2]
    congr 1
    have h1 := h.1
    cases a <;> cases b <;> simp [keyD, toP, PyData.eqv] at h1 <;> rw [h1]
theorem eqv_kD {k l : List Key} (h : eqv (kD k) (kD l) = true) : k = l := by
  unfold eqv kD at h
  simp only [toP, PyData.eqv] at h
  exact eqvAll_keys k l h
theorem lex_app {O : KeyOrd} : ∀ (T a b : List O.α), PyProof.Rows.lexLt O (T ++ a) (T ++ b) = PyProof.Rows.lexLt O a b
  | [], _, _ => rfl
  | x :: T, a, b => by rw [List.cons_append, List.cons_append, PyProof.Rows.lex_self, lex_app T a b]
theorem lt_anti {x y : D} (ha : alk x y = true) (h1 : ltv x y = false) (h2 : ltv y x = false) : eqv x y = true := by
  cases he : eqv x y with
  | true => rfl
  | false =>
    unfold ltv PySem.W.dataLt at h1 h2
    have e := PyProof.Rows.lex_total _ _ h1 h2
    have q := (PySem.W.toks_eqv _ _ ha).2 he [] [.inl 0]
    rw [← e, PyProof.Rows.lex_irrefl, lex_app] at q
    exact absurd q (show ¬ (true = false) by decide)
theorem sortL_uniq {A B : List D} (pm : A.Perm B) (h : ∀ x ∈ A, ∀ y ∈ A, ltv x y = false → ltv y x = false → x = y) : sortL A = sortL B := by
  have s : ∀ l : List D, (sortL l).Pairwise fun d e => ltv e d = false := fun l => by
    refine (PySem.W.sort_pairwise (PySem.W.sortLe_total _ _ _ : PySem.W.TotalLe (PySem.W.dataLe false toP)) l).imp fun {d e} z => ?_
    have z : (!ltv e d) = true := z
    rwa [Bool.not_eq_true'] at z
  have pA : (sortL A).Perm A := List.mergeSort_perm _ _
  have pB : (sortL B).Perm B := List.mergeSort_perm _ _
  exact List.Perm.eq_of_pairwise (le := fun d e => ltv e d = false) (fun a b ha hb h1 h2 => h a (pA.mem_iff.mp ha) b (pm.mem_iff.mpr (pB.mem_iff.mp hb)) h2 h1) (s A) (s B) (pA.trans (pm.trans pB.symm))
theorem setSortTL_some {xs : List D} {d : D} (h : setSortTL xs = some d) : ∃ ks, xs = ks.map kD ∧ sortOk ((nubL ks).map kD) = true ∧ ks.length < 64 ∧ d = .lst (sortL ((nubL ks).map kD)) := by
  obtain ⟨ks, e1, e2⟩ := Option.bind_eq_some_iff.mp h
  split at e2
  · rename_i c
    rw [Bool.and_eq_true, decide_eq_true_eq] at c
    exact ⟨ks, keysT_some e1, c.1, c.2, (Option.some.inj e2).symm⟩
  · cases e2
theorem sort2_of {xs : List D} (c : sortOk xs = true) : (∀ d ∈ xs, pd 60 d = true) ∧ (∀ d ∈ xs, ∀ e ∈ xs, alk d e = true) ∧ KS.Sort2 (xs.map toP) := by
  unfold sortOk at c
  simp only [Bool.and_eq_true, Bool.or_eq_true] at c
  obtain ⟨⟨c1, _⟩, c3, c4⟩ := c
  rw [List.all_eq_true] at c1 c3
  refine ⟨c1, fun d hd e he => ?_, ?_⟩
  · have := c3 d hd
    rw [List.all_eq_true] at this
    exact this e he
  · rcases c4 with (c4 | c4) | c4 <;> rw [List.all_eq_true] at c4
    · refine .inl (.inl fun d hd => ?_)
      obtain ⟨z, hz, rfl⟩ := List.mem_map.mp hd
      have h := c4 z hz
      cases z <;> first | (cases h; done) | skip
      rename_i l
      cases l with
      | nil => cases h
      | cons y l => exact ⟨toP y, toPs l, by simp only [toP, toPs]⟩
    · refine .inl (.inr fun d hd => ?_)
      obtain ⟨z, hz, rfl⟩ := List.mem_map.mp hd
      have h4 := c4 z hz
      have h5 := c1 z hz
      cases z with
      | non => cases h4
      | tup l => cases h4
      | dic _ _ => simp [pd] at h5
      | scr _ => simp [pd] at h5
      | fn _ => simp [pd] at h5
      | bl b => simp [toP]
      | int b => simp [toP]
      | str b => simp [toP]
      | lst b => simp [toP]
    · refine .inr fun d hd => ?_
      obtain ⟨z, hz, rfl⟩ := List.mem_map.mp hd
      have h := c4 z hz
      cases z <;> first | (cases h; done) | skip
      rename_i l
      exact ⟨toPs l, by simp only [toP]⟩
theorem sortL_map {α : Type} (f : α → D) (l : List α) : (l.mergeSort (PySem.W.dataLe false fun a => toP (f a))).map f = sortL (l.map f) := by
  unfold sortL
  exact List.map_mergeSort (r := PySem.W.dataLe false fun a => toP (f a)) (s := fun d e => PySem.W.dataLe false toP d e) (f := f) (fun a _ b _ => rfl)
section
variable {X : Cx} {ks : Ks} {F : Fn} {pos : Pos}
theorem evN_setSortT {p p2 pos2 : Pos} {e : Expr} {f : SE} (hc : X.calm = true) (hu : X.A.units + 128 < cLine) (hg : Gl X "sorted") (hm : X.mg "sorted" = none) (hg2 : Gl X "set") (hm2 : X.mg "set" = none) (hs : noStar e = true) (h : EvP X ks F e f) :
    EvN X ks F (.Call (.Name "sorted" p) [.Call (.Name "set" p2) [e] [] pos2] [] pos) (cU setSortT f) := by
  obtain ⟨t, pt, q⟩ := h.ex
  refine ⟨_, pe_callB (id := "sorted") (cr_sortM hc hu) hg hm (by decide +kernel) (pa_cons (pe_callTy (T := "set") (cr_setM hc (by omega)) hg2 hm2 (by decide +kernel) (pa_cons pt pa_nil (starEach_cons (noStar_ne hs))) (by decide) (by decide) (starEach_cons (noStar_ne hs)) (by rfl)) pa_nil rfl) (by decide) (by decide) rfl (by rfl), fun σ H P ρ Q d fr er ev k => ?_⟩
  obtain ⟨x, e1, ev1⟩ := Option.bind_eq_some_iff.mp ev
  cases x <;> simp only [setSortT] at ev1 <;> first | (cases ev1; done) | skip
  obtain ⟨kl, rfl, g2, g3, rfl⟩ := setSortTL_some ev1
  refine q σ H P ρ _ _ fr er e1 fun v H1 s1 r1 => ?_
  obtain ⟨a, vs, rfl, h1, h2⟩ := r1.lst
  obtain ⟨rs, rfl, rfl, h3⟩ := rows_of h2
  obtain ⟨o1, o2, o3⟩ := sort2_of g2
  have fr1 := fr.same s1
  refine ⟨a, rs, rfl, SqL.of h1, fun r hr => SqT.of (h3 r hr).1, by rw [List.length_map] at g3; exact g3, fun b L hb sub all nd => ?_⟩
  have s2 : Same H1 (upd H1 b (MsO X.prog X.w b L)) := same_new hb
  have inn : ∀ r ∈ L, kD r.2 ∈ (nubL (rs.map (·.2))).map kD := fun r hr => List.mem_map.mpr ⟨r.2, nubL_mem.mpr (List.mem_map.mpr ⟨r, sub r hr, rfl⟩), rfl⟩
  have mp : (L.map fun r => (kD r.2, r)).map (·.2) = L := by rw [List.map_map]; exact (List.map_congr_left fun _ _ => rfl).trans (List.map_id _)
  have rp : ∀ r ∈ L, Rep P (upd H1 b (MsO X.prog X.w b L)) (kD r.2) (.ref r.1) := fun r hr => (h3 r (sub r hr)).2.same s2
  refine ⟨b, L.map fun r => (kD r.2, r), rfl, by rw [mp]; exact upd_same, fun p hp => ?_, fun d hd d' hd' => ?_, ?_, fun p ps' hp pm => ?_⟩
  · obtain ⟨r, hr, rfl⟩ := List.mem_map.mp hp
    refine ⟨SqT.of (s2 _ _ (h3 r (sub r hr)).1), ((rp r hr).toB (mg := X.mg)).dp (o1 _ (inn r hr)), (pd_ok _ _ (o1 _ (inn r hr))).2⟩
  · rw [List.map_map] at hd hd'
    obtain ⟨r, hr, rfl⟩ := List.mem_map.mp hd
    obtain ⟨r', hr', rfl⟩ := List.mem_map.mp hd'
    exact o2 _ (inn r hr) _ (inn r' hr')
  · rw [List.map_map]
    have sb : ∀ d, d ∈ L.map ((fun p : D × MS.Row => toP p.1) ∘ fun r => (kD r.2, r)) → d ∈ ((nubL (rs.map (·.2))).map kD).map toP := fun d hd => by
      obtain ⟨r, hr, rfl⟩ := List.mem_map.mp hd
      exact List.mem_map.mpr ⟨kD r.2, inn r hr, rfl⟩
    rcases o3 with (o3 | o3) | o3
    · exact .inl (.inl fun d hd => o3 d (sb d hd))
    · exact .inl (.inr fun d hd => o3 d (sb d hd))
    · exact .inr fun d hd => o3 d (sb d hd)
  · have pk : (L.map (·.2)).Perm (nubL (rs.map (·.2))) := (List.perm_ext_iff_of_nodup nd (nubL_nodup _)).mpr fun k => by
      rw [nubL_mem]
      constructor
      · intro h
        obtain ⟨r, hr, rfl⟩ := List.mem_map.mp h
        exact List.mem_map.mpr ⟨r, sub r hr, rfl⟩
      · intro h
        obtain ⟨r, hr, rfl⟩ := List.mem_map.mp h
        exact all r hr
    have e2 : sortL ((nubL (rs.map (·.2))).map kD) = (ps'.mergeSort (PySem.W.dataLe false fun p => toP p.1)).map (·.1) := by
      rw [sortL_map (fun p : D × MS.Row => p.1)]
      have p1 : (ps'.map (·.1)).Perm ((nubL (rs.map (·.2))).map kD) := by
        refine (pm.map (·.1)).trans ?_
        have := pk.map kD
        rw [List.map_map] at this
        rw [List.map_map]
        exact this
      refine (sortL_uniq p1 fun x hx y hy l1 l2 => ?_).symm
      have hx := p1.mem_iff.mp hx
      have hy := p1.mem_iff.mp hy
      have := lt_anti (o2 x hx y hy) l1 l2
      obtain ⟨kx, _, rfl⟩ := List.mem_map.mp hx
      obtain ⟨ky, _, rfl⟩ := List.mem_map.mp hy
      rw [eqv_kD this]
    rw [e2] at k
    refine k _ _ ((s1.trans s2).trans (same_new hp)) ⟨?_, topNew_ref ((s1.trans s2).free hp)⟩
    have rl : RepL P (upd H1 b (MsO X.prog X.w b L)) ((ps'.mergeSort (PySem.W.dataLe false fun p => toP p.1)).map (·.1)) ((ps'.mergeSort (PySem.W.dataLe false fun p => toP p.1)).map fun p => V.ref p.2.1) := by
      have h := RepL.ofPairs (P := P) (H := upd H1 b (MsO X.prog X.w b L)) (ps := (ps'.mergeSort (PySem.W.dataLe false fun p => toP p.1)).map fun p => (p.1, V.ref p.2.1)) fun z hz => by
        obtain ⟨y, hy, rfl⟩ := List.mem_map.mp hz
        have hy := pm.mem_iff.mp ((List.mergeSort_perm _ _).mem_iff.mp hy)
        obtain ⟨r, hr, rfl⟩ := List.mem_map.mp hy
        exact rp r hr
      rw [List.map_map, List.map_map] at h
      exact h
    simp only [Rep]
    exact ⟨p, _, rfl, ((fr.same s1).same s2) p hp, upd_same, rl.same (same_new hp)⟩
end
end RE
/-! RE14: defs by levels, calls. -/
namespace RE
open PySem PySem.Spec PyProof.Rows L2

/-- a def's parameters' kinds; nw: what it gives is new where it is a list or dict -/
structure Sig where
  ks : List Kind
  nw : Bool
/-- the promise of a def by the function of trees -/
def spF (mg : Str → Option Value) (pk : Sig) (F : Fn) (f : Str) : Sp := fun vs H Q _ => ∃ (P : Addr → Prop) (ds : List D) (d : D), Fre P H ∧ RepA mg P H pk.ks ds vs ∧ ds.length = pk.ks.length ∧ F f ds = some d ∧ ∀ v H', Same H H' → Rep P H' d v → (pk.nw = true → TopNew H d v) → Q v H'
structure Callee (X : Cx) (F : Fn) (f : Str) (pk : Sig) : Prop where
  ex : ∃ (a : Addr) (fd : FuncData) (ps : List Str) (k : Nat), FnOk X.prog X.w X.K X.mg X.base CX0 k a fd ps (spF X.mg pk F f) ∧ Room k X.A ∧ X.mg f = some (.ref a) ∧ PySem.W.keepIn X.K (.ref a) = true ∧ Binds X.K fd ps []
section
variable {X : Cx} {ks : Ks} {F : Fn} {pos : Pos}
theorem Callee.pe {f : Str} {pk : Sig} {p : Pos} {es : List Expr} {t : TA} (c : Callee X F f pk) (hg : Gl X f) (hdb : (f == ("__debug__" : Str)) = false) (hs : es.all noStar = true) (ha : PA X es t) : PE X (.Call (.Name f p) es [] pos) (tCall (spF X.mg pk F f) [] E0 (if es = [] then tNil else t)) := by
  obtain ⟨a, fd, ps, k, fo, hr, hm, hk, hb⟩ := c.ex
  cases es with
  | nil => exact pe_call0 fo hr hg hm hk hb .nil pass0 hdb
  | cons e es =>
    rw [List.all_cons, Bool.and_eq_true] at hs
    exact pe_call fo hr hg hm hk hb .nil pass0 ha hdb (starEach_cons (noStar_ne hs.1)) (backTo_any hs.2)
def cFn (f : Str) (g : SA) : SE := fun F ρ => (g F ρ).bind fun ds => F f ds
theorem evE_call {f : Str} {pk : Sig} {p : Pos} {es : List Expr} {g : SA} (c : Callee X F f pk) (hg : Gl X f) (hdb : (f == ("__debug__" : Str)) = false) (hs : es.all noStar = true) (hl : es.length = pk.ks.length) (hlen : ∀ F ρ ds, g F ρ = some ds → ds.length = es.length) (ha : EvA X ks F pk.ks es g) :
    EvE X ks F (.Call (.Name f p) es [] pos) (cFn f g) := by
  obtain ⟨t, pt, q⟩ := ha.ex
  refine ⟨_, c.pe hg hdb hs pt, fun σ H P ρ Q d fr er ev k => ?_⟩
  obtain ⟨ds, e1, e2⟩ := Option.bind_eq_some_iff.mp ev
  have fin : ∀ vs H1, Same H H1 → RepA X.mg P H1 pk.ks ds vs → spF X.mg pk F f (vs ++ []) H1 Q E0 := fun vs H1 s1 r1 => by
    rw [List.append_nil]
    exact ⟨P, ds, d, fr.same s1, r1, by rw [hlen F ρ ds e1, hl], e2, fun v H' s r _ => k v H' (s1.trans s) r⟩
  show (if es = [] then tNil else t) σ H (fun vs H1 => spF X.mg pk F f (vs ++ []) H1 Q E0)
  split
  · rename_i he
    subst he
    have hd : ds = [] := List.length_eq_zero_iff.mp (hlen F ρ ds e1)
    subst hd
    exact fin [] H (Same.refl H) rfl
  · exact q σ H P ρ _ ds fr er e1 fun vs H1 s1 r1 => fin vs H1 s1 r1
/-- no list, no dict within -/
def imm : D → Bool
  | .lst _ => false
  | .dic _ _ => false
  | .tup xs => immL xs
  | _ => true
where immL : List D → Bool
  | [] => true
  | d :: ds => imm d && immL ds
mutual
theorem Rep.imm {P P' : Addr → Prop} {H : Hp} : ∀ (d : D) (v : V), RE.imm d = true → Rep P H d v → Rep P' H d v
  | .non, v, _, h => by simpa only [Rep] using h
  | .bl b, v, _, h => by simpa only [Rep] using h
  | .int i, v, _, h => by simpa only [Rep] using h
  | .str x, v, _, h => by simpa only [Rep] using h
  | .tup ds, v, e, h => by
    simp only [Rep] at h ⊢
    simp only [RE.imm] at e
    obtain ⟨a, vs, e1, h1, h2⟩ := h
    exact ⟨a, vs, e1, h1, RepL.imm ds vs e h2⟩
  | .lst ds, v, e, h => by simp [RE.imm] at e
  | .dic t kvs, v, e, h => by simp [RE.imm] at e
  | .scr ns, v, _, h => by simpa only [Rep] using h
  | .fn f, v, _, h => by simpa only [Rep] using h
theorem RepL.imm {P P' : Addr → Prop} {H : Hp} : ∀ (ds : List D) (vs : List V), RE.imm.immL ds = true → RepL P H ds vs → RepL P' H ds vs
  | [], vs, _, h => by simpa only [RepL] using h
  | d :: ds, vs, e, h => by
    simp only [RE.imm.immL, Bool.and_eq_true] at e
    simp only [RepL] at h ⊢
    obtain ⟨v, r, e1, h1, h2⟩ := h
    exact ⟨v, r, e1, Rep.imm d v e.1 h1, RepL.imm ds r e.2 h2⟩
end
theorem RepB.imm {mg : Str → Option Value} {P P' : Addr → Prop} {H : Hp} {d : D} {v : V} (e : RE.imm d = true) (h : RepB mg P H d v) : RepB mg P' H d v := by
  cases d <;> simp only [RepB] at h ⊢ <;> first | exact h | exact Rep.imm _ _ e h | (simp [RE.imm] at e; done)
theorem RepA.imm {mg : Str → Option Value} {P P' : Addr → Prop} {H : Hp} : ∀ {pk : List Kind} {ds : List D} {vs : List V}, RE.imm.immL ds = true → RepA mg P H pk ds vs → RepA mg P' H pk ds vs
  | _, [], _, _, h => h
  | pk, d :: ds, vs, e, h => by
    simp only [RE.imm.immL, Bool.and_eq_true] at e
    obtain ⟨v, r, e1, h1, h2⟩ := h
    refine ⟨v, r, e1, ?_, RepA.imm e.2 h2⟩
    generalize pk.headD .F = z at h1 ⊢
    cases z with
    | F => exact Rep.imm _ _ e.1 h1
    | M => exact RepB.imm e.1 h1
    | L => exact RepB.imm e.1 h1
    | B => exact RepB.imm e.1 h1
/-- .. nothing given that could be changed: what it gives is new -/
def cFnN (f : Str) (g : SA) : SE := fun F ρ => (g F ρ).bind fun ds => if imm.immL ds = true then F f ds else none
theorem evN_call {f : Str} {pk : Sig} {p : Pos} {es : List Expr} {g : SA} (c : Callee X F f pk) (hg : Gl X f) (hdb : (f == ("__debug__" : Str)) = false) (hs : es.all noStar = true) (hl : es.length = pk.ks.length) (hlen : ∀ F ρ ds, g F ρ = some ds → ds.length = es.length) (ha : EvA X ks F pk.ks es g) :
    EvN X ks F (.Call (.Name f p) es [] pos) (cFnN f g) := by
  obtain ⟨t, pt, q⟩ := ha.ex
  refine ⟨_, c.pe hg hdb hs pt, fun σ H P ρ Q d fr er ev k => ?_⟩
  obtain ⟨ds, e1, e2⟩ := Option.bind_eq_some_iff.mp ev
  split at e2
  · rename_i hi
    have fin : ∀ vs H1, Same H H1 → RepA X.mg P H1 pk.ks ds vs → spF X.mg pk F f (vs ++ []) H1 Q E0 := fun vs H1 s1 r1 => by
      rw [List.append_nil]
      refine ⟨fun a => H1 a = none, ds, d, fun a h => h, RepA.imm hi r1, by rw [hlen F ρ ds e1, hl], e2, fun v H' s r _ => k v H' (s1.trans s) ⟨r.weak fun a h => fr.same s1 a h, ?_⟩⟩
      cases d <;> simp only [TopNew, Rep] at r ⊢
      · intro a ea
        obtain ⟨b, vs, eb, h, _⟩ := r
        rw [ea] at eb; cases eb
        exact s1.free h
      · intro a ea
        obtain ⟨b, vs, eb, h, _⟩ := r
        rw [ea] at eb; cases eb
        exact s1.free h
    show (if es = [] then tNil else t) σ H (fun vs H1 => spF X.mg pk F f (vs ++ []) H1 Q E0)
    split
    · rename_i he
      subst he
      have hd : ds = [] := List.length_eq_zero_iff.mp (hlen F ρ ds e1)
      subst hd
      exact fin [] H (Same.refl H) rfl
    · exact q σ H P ρ _ ds fr er e1 fun vs H1 s1 r1 => fin vs H1 s1 r1
  · cases e2
/-- .. a def that gives new things -/
theorem evN_callNew {f : Str} {pk : Sig} {p : Pos} {es : List Expr} {g : SA} (hn : pk.nw = true) (c : Callee X F f pk) (hg : Gl X f) (hdb : (f == ("__debug__" : Str)) = false) (hs : es.all noStar = true) (hl : es.length = pk.ks.length) (hlen : ∀ F ρ ds, g F ρ = some ds → ds.length = es.length) (ha : EvA X ks F pk.ks es g) :
    EvN X ks F (.Call (.Name f p) es [] pos) (cFn f g) := by
  obtain ⟨t, pt, q⟩ := ha.ex
  refine ⟨_, c.pe hg hdb hs pt, fun σ H P ρ Q d fr er ev k => ?_⟩
  obtain ⟨ds, e1, e2⟩ := Option.bind_eq_some_iff.mp ev
  have fin : ∀ vs H1, Same H H1 → RepA X.mg P H1 pk.ks ds vs → spF X.mg pk F f (vs ++ []) H1 Q E0 := fun vs H1 s1 r1 => by
    rw [List.append_nil]
    exact ⟨P, ds, d, fr.same s1, r1, by rw [hlen F ρ ds e1, hl], e2, fun v H' s r n => k v H' (s1.trans s) ⟨r, (n hn).back s1⟩⟩
  show (if es = [] then tNil else t) σ H (fun vs H1 => spF X.mg pk F f (vs ++ []) H1 Q E0)
  split
  · rename_i he
    subst he
    have hd : ds = [] := List.length_eq_zero_iff.mp (hlen F ρ ds e1)
    subst hd
    exact fin [] H (Same.refl H) rfl
  · exact q σ H P ρ _ ds fr er e1 fun vs H1 s1 r1 => fin vs H1 s1 r1
end

/-! ### defs -/
/-- what a def is, by trees: parameters' kinds, all slots' kinds, the number of slots, its body -/
structure DefS where
  np : Nat
  nn : Nat
  ks : Ks
  nw : Bool
  body : SS
def runD (d : DefS) (F : Fn) (ds : List D) : Option D := if ds.length = d.np then (d.body F (ds.map some ++ List.replicate (d.nn - ds.length) none)).bind fun r => match r with | .rt b v => if (d.nw && !b) = true then none else some v | .nx _ => some .non else none
/-- by levels -/
def lvl (T : Str → Option DefS) : Nat → Fn
  | 0 => fun _ _ => none
  | n + 1 => fun f ds => (T f).bind fun d => runD d (lvl T n) ds
/-- parameters are shared, or only looked at -/
def okPar (ks : Ks) (np : Nat) : Bool := (ks.take np).all fun k => decide (k = .F) || decide (k = .B)
theorem ER.start {mg : Str → Option Value} {P : Addr → Prop} {H : Hp} : ∀ {ks : Ks} {ds : List D} {vs : List V} {m : Nat}, RepA mg P H ks ds vs → ER mg P ks H (vs.map some ++ List.replicate m none) (ds.map some ++ List.replicate m none)
  | ks, [], vs, m, h => by
    rw [show vs = [] from h]
    refine ⟨by simp, fun i d e => ?_⟩
    rw [List.map_nil, List.nil_append, List.getElem?_replicate] at e
    split at e <;> cases e
  | ks, d :: ds, vs, m, h => by
    obtain ⟨v, r, rfl, h1, h2⟩ := h
    have ih := ER.start (m := m) h2
    refine ⟨by simpa using ih.1, fun i e q => ?_⟩
    cases i with
    | zero =>
      cases q
      refine ⟨v, rfl, ?_⟩
      cases ks with
      | nil => exact h1
      | cons k ks => exact h1
    | succ i =>
      obtain ⟨w, e1, r1⟩ := ih.2 i e (by simpa using q)
      refine ⟨w, by simpa using e1, ?_⟩
      cases ks with
      | nil => exact r1
      | cons k ks => exact r1
theorem RepA.kinds {mg : Str → Option Value} {P : Addr → Prop} {H : Hp} : ∀ {ks : Ks} {n : Nat} {ds : List D} {vs : List V}, ds.length = n → RepA mg P H (ks.take n) ds vs → RepA mg P H ks ds vs
  | _, _, [], _, _, h => h
  | ks, n, d :: ds, vs, hl, h => by
    obtain ⟨v, r, e, h1, h2⟩ := h
    subst hl
    refine ⟨v, r, e, ?_, ?_⟩
    · cases ks with
      | nil => exact h1
      | cons k ks => exact h1
    · cases ks with
      | nil => exact RepA.kinds (n := ds.length) rfl (by simpa using h2)
      | cons k ks => exact RepA.kinds (n := ds.length) rfl (by simpa using h2)
/-- at a def's entry -/
theorem SR.start {mg : Str → Option Value} {P : Addr → Prop} {H : Hp} {ks : Ks} {ds : List D} {vs : List V} {m : Nat} (fr : Fre P H) (hp : okPar ks ds.length = true) (h : RepA mg P H ks ds vs) : SR mg H P P ks H (vs.map some ++ List.replicate m none) (ds.map some ++ List.replicate m none) := by
  have kinds : ∀ i d, (ds.map some ++ List.replicate m none)[i]? = some (some d) → kd ks i = .F ∨ kd ks i = .B := fun i d e => by
    have hi : i < ds.length := by
      by_cases c : i < ds.length
      · exact c
      · rw [List.getElem?_append_right (by simpa using c), List.getElem?_replicate] at e
        split at e <;> cases e
    unfold kd
    rw [List.getD_eq_getElem?_getD]
    cases q : ks[i]? with
    | none => exact .inl rfl
    | some k =>
      unfold okPar at hp
      rw [List.all_eq_true] at hp
      have := hp k (by
        rw [List.mem_iff_getElem?]
        exact ⟨i, by rw [List.getElem?_take_of_lt hi]; exact q⟩)
      simpa using this
  have er := ER.start (m := m) h
  refine ⟨fr, fun _ p => p, fr, Same.refl H, er, fun i d hk e _ => ?_, fun i j d e a _ hi _ e1 => ?_, fun i d a hk e m s => ?_, fun i g hk e => ?_⟩
  · rcases kinds i d e with q | q <;> rw [q] at hk <;> rcases hk with z | z <;> cases z
  · rcases kinds i d e1 with q | q <;> rw [q] at hi <;> rcases hi with z | z <;> cases z
  · obtain ⟨v, e1, r⟩ := er.2 i d e
    rw [s] at e1; cases e1
    have rb := r.toB
    cases d <;> simp only [isMut] at m <;> first | (cases m; done) | skip
    · obtain ⟨b, vs, e, h1, _⟩ := rb.lst; cases e; rw [h1]; simp
    · obtain ⟨b, ps, e, h1, _⟩ := rb.dic; cases e; exact h1.some
  · rcases kinds i _ e with q | q <;> rw [q] at hk <;> rcases hk with z | z <;> cases z
theorem fnOk_none {P : Program} {w : World} {K : PySem.W.Frag} {mg : Str → Option Value} {base : Heap} {k : Nat} {a : Addr} {fd : FuncData} {ps : List Str} {pk : Sig} {f : Str} {F : Fn} (h : ∀ ds, F f ds = none) : FnOk P w K mg base CX0 k a fd ps (spF mg pk F f) :=
  ⟨(fun vs H Q E ⟨_, ds, d, _, _, _, e, _⟩ => by rw [h ds] at e; cases e), fun _ _ _ _ _ _ _ _ _ _ _ _ _ ⟨_, ds, d, _, _, _, e, _⟩ => by rw [h ds] at e; cases e⟩
/-- a def's promise at the next level -/
theorem fnOk_succ {P : Program} {w : World} {K : PySem.W.Frag} {mg : Str → Option Value} {base : Heap} {k n : Nat} {x : Str} {f : Addr} {fd : FuncData} {N ps : List Str} {T : Str → Option DefS} {d : DefS} (hd : T x = some d) {params : Arguments} {stb : List Stmt} {sc : Scope} (F : FunD K x x params stb sc [] [] f fd) (S : FnScope N ps sc) (hnp : d.np = ps.length) (hnn : d.nn = N.length) (hpar : okPar d.ks d.np = true) (hks : (d.ks.take d.np).length = d.np)
    (hb : ∀ (cdv : Value) (A : Around) (outer : List PySem.Env) (s : Shared) (H : Hp) (E : XK), Room k (A.deeper (envOfC x sc s.heap.objs.size f cdv)) → EvSs (cxOf CX0 P w K mg base N x sc f cdv A outer s H E).nox d.ks (lvl T n) stb d.body) :
    FnOk P w K mg base CX0 (k + 1) f fd ps (spF mg ⟨d.ks.take d.np, d.nw⟩ (lvl T (n + 1)) x) := by
  refine F.ok S (fun vs H Q E ⟨_, ds, dd, _, r, hl, _, _⟩ => by rw [r.length, hl, hks, hnp]) fun cdv A outer s H vs Q E hr ⟨P0, ds, dd, fr, r, hl, ev, kk⟩ => ?_
  obtain ⟨t, pt, q⟩ := (hb cdv A outer s H E hr).ex
  have hl2 : ds.length = d.np := by rw [hl, hks]
  simp only [lvl] at ev
  rw [hd] at ev
  simp only [Option.bind_some, runD] at ev
  rw [if_pos hl2] at ev
  obtain ⟨res, e1, e2⟩ := Option.bind_eq_some_iff.mp ev
  refine ⟨t, PSs.nox pt, ?_⟩
  have r' : RepA mg P0 H d.ks ds vs := RepA.kinds hl2 r
  have sr : SR mg H P0 P0 d.ks H (L2.start N vs) (ds.map some ++ List.replicate (d.nn - ds.length) none) := by
    unfold L2.start
    rw [r.length, ← hnn]
    exact SR.start fr (by rw [hl2]; exact hpar) r'
  refine q H P0 P0 H _ _ _ res sr e1 ?_
  cases res with
  | nx ρ' =>
    cases e2
    exact fun P' σ' H' sr' fm => kk .non H' sr'.keep (by simp only [Rep]) fun _ => trivial
  | rt b v =>
    simp only at e2
    split at e2
    · cases e2
    · rename_i hb
      cases e2
      refine fun v H' s r n => kk v H' s r fun hn => n ?_
      have hn : d.nw = true := hn
      rw [hn] at hb
      simpa using hb
end RE
/-! RE14b: a call of a parameter that holds a def. -/
namespace RE
open PySem PySem.Spec PyProof.Rows L2

def tCallP (mg : Str → Option Value) (pk : Sig) (F : Fn) (gs : List Str) (i : Nat) (t : TA) : TE := fun σ H Q => ∃ f a, f ∈ gs ∧ mg f = some (.ref a) ∧ σ[i]? = some (some (.ref a)) ∧ t σ H fun vs H1 => spF mg pk F f (vs ++ []) H1 Q E0
theorem pe_callP {X : Cx} {F : Fn} {pk : Sig} {gs : List Str} {i : Nat} {x : Str} {p pos : Pos} {e : Expr} {es : List Expr} {t : TA} (hc : ∀ f ∈ gs, Callee X F f pk) (hN : X.N[i]? = some x) (hv : Vis X.env.scope x) (hdb : (x == ("__debug__" : Str)) = false) (hcd : (x == ("__classdict__" : Str)) = false)
    (hs : (e :: es).all noStar = true) (ha : PA X (e :: es) t) : PE X (.Call (.Name x p) (e :: es) [] pos) (tCallP X.mg pk F gs i t) := by
  refine ⟨fun pins s σ H Q I h => ?_⟩
  obtain ⟨f, a, hf, hm, hσ, ht⟩ := h
  obtain ⟨a', fd, ps, k, fo, hr, hm', hk, hb⟩ := (hc f hf).ex
  rw [hm] at hm'
  cases hm'
  rw [List.all_cons, Bool.and_eq_true] at hs
  exact (pe_callL (i := i) fo hr hN hv hk hb .nil pass0 ha hdb hcd (starEach_cons (noStar_ne hs.1)) (backTo_any hs.2)).run pins s σ H Q I ⟨hσ, ht⟩
/-- the i-th slot holds one of these defs: it is called -/
def cFnP (i : Nat) (gs : List Str) (g : SA) : SE := fun F ρ => (cV i F ρ).bind fun d => match d with
  | .fn f => if f ∈ gs then (g F ρ).bind fun ds => F f ds else none
  | _ => none
theorem evE_callP {X : Cx} {ks : Ks} {F : Fn} {pos : Pos} {pk : Sig} {gs : List Str} {i : Nat} {x : Str} {p : Pos} {es : List Expr} {g : SA} (hc : ∀ f ∈ gs, Callee X F f pk) (hN : X.N[i]? = some x) (hv : Vis X.env.scope x) (hdb : (x == ("__debug__" : Str)) = false) (hcd : (x == ("__classdict__" : Str)) = false)
    (hne : es ≠ []) (hs : es.all noStar = true) (hl : es.length = pk.ks.length) (hlen : ∀ F ρ ds, g F ρ = some ds → ds.length = es.length) (ha : EvA X ks F pk.ks es g) :
    EvE X ks F (.Call (.Name x p) es [] pos) (cFnP i gs g) := by
  obtain ⟨t, pt, q⟩ := ha.ex
  cases es with
  | nil => exact absurd rfl hne
  | cons e es =>
    refine ⟨_, pe_callP (F := F) (pk := pk) (gs := gs) hc hN hv hdb hcd hs pt, fun σ H P ρ Q d fr er ev k => ?_⟩
    obtain ⟨y, e1, e2⟩ := Option.bind_eq_some_iff.mp ev
    split at e2
    · rename_i f
      split at e2
      · rename_i hf
        obtain ⟨ds, e3, e4⟩ := Option.bind_eq_some_iff.mp e2
        obtain ⟨v, e5, r⟩ := er.2 i _ (cV_some e1)
        have rb := r.toB
        simp only [RepB] at rb
        obtain ⟨a, rfl, hm⟩ := rb
        refine ⟨f, a, hf, hm, e5, q σ H P ρ _ ds fr er e3 fun vs H1 s1 r1 => ?_⟩
        rw [List.append_nil]
        exact ⟨P, ds, d, fr.same s1, r1, by rw [hlen F ρ ds e3, hl], e4, fun v H' s r _ => k v H' (s1.trans s) r⟩
      · cases e2
    · cases e2
end RE
/-! RE15: what is known of a context; operators and built-ins by name. -/
namespace RE
open PySem PySem.Spec PyProof.Rows L2

/-- the text's defs (their parameters' kinds), constants, and the built-ins' names it does not shadow -/
structure Tab where
  fns : List (Str × Sig)
  glb : List (Str × D)
  blt : List Str
  /-- dicts whose keys are tuples, dicts that are walked: by a def's slots and the name -/
  dT : List (List Str × Str) := []
  dN : List (List Str × Str) := []
def Tab.tk (T : Tab) (N : List Str) (x : Str) : Bool := T.dT.any fun p => decide (p.1 = N) && decide (p.2 = x)
def Tab.dn (T : Tab) (N : List Str) (x : Str) : Bool := T.dN.any fun p => decide (p.1 = N) && decide (p.2 = x)
/-- a block: its slots, its scope; all: a def's own block; raw: a comprehension's names as written -/
structure SC where
  N : List Str
  scope : Scope
  all : Bool
  raw : List (Str × NameKind)
  nw : Bool
def SC.sto (c : SC) (x : Str) : Bool := c.all || decide (c.raw.lookup x = some .local) || decide (c.raw.lookup x = some .cell)
structure XOk (T : Tab) (c : SC) (X : Cx) (F : Fn) : Prop where
  hN : X.N = c.N
  nd : c.N.Nodup
  sc : X.env.scope = c.scope
  calm : X.calm = true
  own : PassesOwn (model X.prog X.w) X.A X.env X.xe
  un : X.A.units + 128 < cLine
  kind : c.scope.kind = .function
  sto : ∀ x, c.sto x = true → X.fn x = true ∨ X.env.scope.names.lookup x = some .local
  fns : ∀ f pk, T.fns.lookup f = some pk → Callee X F f pk
  glb : ∀ x d, T.glb.lookup x = some d → ∃ v u, constV d = some v ∧ X.mg x = some u ∧ RelV v u
  blt : ∀ x, x ∈ T.blt → X.mg x = none
/-- a comprehension's scope within a block's -/
def relS (scope sc : Scope) : Scope := { scope with names := scope.names.map fun (n, k) => if (k == .free && sc.kind == .function && sc.names.lookup n == some .cell) then (n, .cell) else (n, k) }
def SC.blk (c : SC) (scope : Scope) : SC := ⟨c.N, relS scope c.scope, false, scope.names, c.nw⟩
theorem XOk.blk {T : Tab} {c : SC} {X : Cx} {F : Fn} (h : XOk T c X F) {scope : Scope} (hk : scope.kind = .function) (s : Shared) (H : Hp) (C : Addr) (cl : List (Str × Addr)) (fp : List Addr) : XOk T (c.blk scope) (X.blk s H scope (compEnvC scope cl C X.env) fp) F where
  hN := h.hN
  nd := h.nd
  sc := by
    show relabel scope X.env = relS scope c.scope
    rw [← h.sc]
    rfl
  calm := h.calm
  own := PassesOwn.never
  un := h.un
  kind := hk
  sto := fun x hx => by
    unfold SC.sto SC.blk at hx
    simp only [Bool.false_or, Bool.or_eq_true, decide_eq_true_eq] at hx
    rcases hx with q | q
    · right
      show (relabel scope X.env).names.lookup x = some .local
      exact lookup_relabel_local q
    · left
      show (scope.names.lookup x == some .cell) = true
      rw [q]; rfl
  fns := fun f pk e => by
    obtain ⟨a, fd, ps, k, h1, h2, h3, h4, h5⟩ := (h.fns f pk e).ex
    exact ⟨a, fd, ps, k, h1, h2, h3, h4, h5⟩
  glb := h.glb
  blt := h.blt

/-! ### names -/
def SC.vis (c : SC) (x : Str) : Bool := decide (c.scope.names.lookup x = some .local) || decide (c.scope.names.lookup x = some .cell) || decide (c.scope.names.lookup x = some .free)
def SC.loc (c : SC) (x : Str) : Bool := decide (c.scope.names.lookup x = some .local) || decide (c.scope.names.lookup x = some .cell)
def SC.gl (c : SC) (x : Str) : Bool := decide (c.scope.names.lookup x = some .globalImplicit)
def SC.ix (c : SC) (x : Str) : Option Nat := c.N.findIdx? fun y => decide (y = x)
def plainName (x : Str) : Bool := !(x == ("__debug__" : Str)) && !(x == ("__classdict__" : Str)) && !decide (x = "__name__")
section
variable {T : Tab} {c : SC} {X : Cx} {F : Fn} {x : Str}
theorem XOk.vis (h : XOk T c X F) (e : c.vis x = true) : Vis X.env.scope x := by
  unfold SC.vis at e
  rw [h.sc]
  simp only [Bool.or_eq_true, decide_eq_true_eq] at e
  rcases e with (e | e) | e
  · exact .inl e
  · exact .inr (.inl e)
  · exact .inr (.inr e)
theorem XOk.loc (h : XOk T c X F) (e : c.loc x = true) : Loc X.env.scope x := by
  unfold SC.loc at e
  rw [h.sc]
  unfold L2.Loc
  simpa using e
theorem XOk.gl (h : XOk T c X F) (e : c.gl x = true) : Gl X x := by
  unfold SC.gl at e
  show X.env.scope.names.lookup x = _
  rw [h.sc]
  simpa using e
theorem XOk.ix (h : XOk T c X F) {i : Nat} (e : c.ix x = some i) : X.N[i]? = some x := by
  rw [h.hN]
  unfold SC.ix at e
  obtain ⟨hi, p, _⟩ := List.findIdx?_eq_some_iff_getElem.mp e
  rw [List.getElem?_eq_getElem hi]
  exact congrArg some (of_decide_eq_true p)
theorem XOk.nodup (h : XOk T c X F) : X.N.Nodup := by rw [h.hN]; exact h.nd
theorem plain_d (h : plainName x = true) : (x == ("__debug__" : Str)) = false := by
  unfold plainName at h
  simp only [Bool.and_eq_true, Bool.not_eq_true'] at h
  exact h.1.1
theorem plain_c (h : plainName x = true) : (x == ("__classdict__" : Str)) = false := by
  unfold plainName at h
  simp only [Bool.and_eq_true, Bool.not_eq_true'] at h
  exact h.1.2
theorem plain_n (h : plainName x = true) : x ≠ "__name__" := by
  unfold plainName at h
  simp only [Bool.and_eq_true, Bool.not_eq_true', decide_eq_false_iff_not] at h
  exact h.2
end

/-! ### operators -/
abbrev OpF (b : Value → Value → Sem Value) := { o : D → D → Option D // ∀ X : Cx, X.A.units + 128 < cLine → ∃ r, OpR X b r ∧ R2Ok X.mg r o }
def binF : (op : Operator) → Option (OpF (binaryOp op))
  | .Add => some ⟨addD, fun X h => ⟨_, op_addD, addD_ok⟩⟩
  | .Sub => some ⟨subD, fun X h => ⟨_, op_sub, subD_ok⟩⟩
  | .Mult => some ⟨mulD, fun X h => ⟨_, op_mulD, mulD_ok⟩⟩
  | .Mod => some ⟨modD, fun X h => ⟨_, op_modN, modD_ok⟩⟩
  | .FloorDiv => some ⟨fdivD, fun X h => ⟨_, op_fdivA, fdivD_ok⟩⟩
  | .Pow => some ⟨powD, fun X h => ⟨_, op_pow, powD_ok⟩⟩
  | _ => none
def cmpF : (op : CmpOp) → Option (OpF (compareOp op))
  | .Eq => some ⟨eqD, fun X h => ⟨_, op_eqP (by omega), eqD_ok⟩⟩
  | .NotEq => some ⟨neD, fun X h => ⟨_, (op_neP (by omega)).or (op_neE (by omega)), neD_ok⟩⟩
  | .Lt => some ⟨ltD, fun X h => ⟨_, op_ltP (by omega), ltD_ok⟩⟩
  | .LtE => some ⟨leD, fun X h => ⟨_, op_leP (by omega), leD_ok⟩⟩
  | .Gt => some ⟨gtD, fun X h => ⟨_, op_gtP (by omega), gtD_ok⟩⟩
  | .GtE => some ⟨geD, fun X h => ⟨_, op_geP (by omega), geD_ok⟩⟩
  | .Is => some ⟨isD, fun X h => ⟨_, op_isD, isD_ok⟩⟩
  | .IsNot => some ⟨isntD, fun X h => ⟨_, op_isntD, isntD_ok⟩⟩
  | _ => none
/-- a built-in called by its name -/
structure BF where
  x : Str
  n : Nat
  val : Value
  op : List D → Option D
  ok : ∀ X : Cx, X.calm = true → X.A.units + 128 < cLine → (∃ id r, val = .builtin id ∧ CallR X (.builtin id) r ∧ RcOk X.mg r op) ∨ ∃ U r, val = .type U ∧ CallR X (.type U) r ∧ RcOk X.mg r op
  hv : bootBuiltins x = some val
noncomputable def bfs : List BF := [
  ⟨"len", 1, .builtin "len", op1 lenD, fun X _ hu => .inl ⟨_, _, rfl, call_lenD2, lenD_ok⟩, by decide +kernel⟩,
  ⟨"abs", 1, .builtin "abs", op1 absD, fun X _ hu => .inl ⟨_, _, rfl, call_abs, absD_ok⟩, by decide +kernel⟩,
  ⟨"max", 2, .builtin "max", op2 max2D, fun X h hu => .inl ⟨_, _, rfl, call_max2 h, max2D_ok⟩, by decide +kernel⟩,
  ⟨"min", 2, .builtin "min", op2 min2D, fun X h hu => .inl ⟨_, _, rfl, call_min2 h, min2D_ok⟩, by decide +kernel⟩,
  ⟨"max", 1, .builtin "max", op1 max1D, fun X h hu => .inl ⟨_, _, rfl, cr_max h, max1D_ok⟩, by decide +kernel⟩,
  ⟨"min", 1, .builtin "min", op1 min1D, fun X h hu => .inl ⟨_, _, rfl, cr_min h, min1D_ok⟩, by decide +kernel⟩,
  ⟨"sorted", 1, .builtin "sorted", op1 sortedD, fun X h hu => .inl ⟨_, _, rfl, cr_sortDD h hu, sortedD_ok⟩, by decide +kernel⟩,
  ⟨"any", 1, .builtin "any", op1 anyD, fun X h hu => .inl ⟨_, _, rfl, cr_any h, anyD_ok⟩, by decide +kernel⟩,
  ⟨"all", 1, .builtin "all", op1 allD, fun X h hu => .inl ⟨_, _, rfl, cr_all h, allD_ok⟩, by decide +kernel⟩,
  ⟨"sum", 1, .builtin "sum", op1 sumD, fun X h hu => .inl ⟨_, _, rfl, cr_sum h, sumD_ok⟩, by decide +kernel⟩,
  ⟨"int", 1, .type "int", op1 int1D, fun X h hu => .inr ⟨_, _, rfl, call_int1, int1D_ok⟩, by decide +kernel⟩,
  ⟨"bool", 1, .type "bool", op1 bool1D, fun X h hu => .inr ⟨_, _, rfl, call_bool1, bool1D_ok⟩, by decide +kernel⟩,
  ⟨"list", 1, .type "list", op1 listDD, fun X h hu => .inr ⟨_, _, rfl, cr_list h, listDD_ok⟩, by decide +kernel⟩,
  ⟨"dict", 1, .type "dict", op1 dictD, fun X h hu => .inr ⟨_, _, rfl, cr_dict h hu, dictD_ok⟩, by decide +kernel⟩,
  ⟨"tuple", 1, .type "tuple", op1 tupleD, fun X h hu => .inr ⟨_, _, rfl, call_tuple_of, tupleD_ok⟩, by decide +kernel⟩]
theorem evN_bf {T : Tab} {c : SC} {X : Cx} {F : Fn} {ks : Ks} (ok : XOk T c X F) (b : BF) {p pos : Pos} {e : Expr} {es : List Expr} {g : SA} (hg : c.gl b.x = true) (hb : b.x ∈ T.blt) (hp : plainName b.x = true) (hs : (e :: es).all noStar = true) (ha : EvA X ks F [.B, .B, .B, .B] (e :: es) g) :
    EvN X ks F (.Call (.Name b.x p) (e :: es) [] pos) (cCall b.op g) := by
  have hv := b.hv
  rcases b.ok X ok.calm ok.un with ⟨id, r, e1, h1, h2⟩ | ⟨U, r, e1, h1, h2⟩
  · rw [e1] at hv
    exact evN_callB h1 h2 (ok.gl hg) (ok.blt _ hb) hv (plain_n hp) (plain_d hp) hs ha
  · rw [e1] at hv
    exact evN_callT h1 h2 (ok.gl hg) (ok.blt _ hb) hv (plain_n hp) (plain_d hp) hs ha
end RE
/-! RE16: from the text to functions of trees, with the proof that they tell what is computed: expressions. -/
namespace RE
open PySem PySem.Spec PyProof.Rows L2

/-! ### own slots that are not changed for now -/
def demote (is : List Nat) : Nat → Ks → Ks
  | _, [] => []
  | i, k :: ks => (if (decide (k = .M) && is.contains i) = true then .L else k) :: demote is (i + 1) ks
theorem dem_demote (is : List Nat) : ∀ (ks : Ks) (i : Nat), Dem ks (demote is i ks)
  | [], i, j => .inl rfl
  | k :: ks, i, j => by
    cases j with
    | zero =>
      show kd ((if (decide (k = .M) && is.contains i) = true then Kind.L else k) :: _) 0 = _ ∨ _
      by_cases h : (decide (k = .M) && is.contains i) = true
      · right
        have hm : k = .M := by
          rw [Bool.and_eq_true] at h
          exact of_decide_eq_true h.1
        subst hm
        exact ⟨rfl, by unfold demote; rw [if_pos h]; rfl⟩
      · left
        unfold demote; rw [if_neg h]; rfl
    | succ j => exact dem_demote is ks (i + 1) j
def setF (is : List Nat) : Nat → Ks → Ks
  | _, [] => []
  | i, k :: ks => (if is.contains i = true then .F else k) :: setF is (i + 1) ks
theorem kd_setF (is : List Nat) : ∀ (ks : Ks) (i j : Nat), i + j ∉ is → kd (setF is i ks) j = kd ks j
  | [], i, j, _ => rfl
  | k :: ks, i, j, h => by
    cases j with
    | zero =>
      unfold setF
      have : is.contains i = false := by simpa using h
      rw [this]; rfl
    | succ j =>
      have := kd_setF is ks (i + 1) j (by rw [Nat.add_assoc, Nat.add_comm 1 j]; exact h)
      exact this
section
variable {X : Cx} {ks ks' : Ks} {F : Fn} {e : Expr} {f : SE}
theorem ER.undem {mg : Str → Option Value} {P : Addr → Prop} {H : Hp} {σ : L2.St} {ρ : RE.Env} (dm : Dem ks ks') (h : ER mg P ks H σ ρ) : ER mg P ks' H σ ρ := ⟨h.1, fun i d e => by
  obtain ⟨v, e1, r⟩ := h.2 i d e
  refine ⟨v, e1, ?_⟩
  rcases dm i with q | ⟨q1, q2⟩
  · rw [q]; exact r
  · rw [q2]; rw [q1] at r; exact r⟩
theorem EvNS.undem (dm : Dem ks ks') (h : EvNS X ks' F e f) : EvNS X ks F e f := by
  obtain ⟨t, p, q⟩ := h.ex
  exact ⟨t, p, fun σ H P ρ Q d fr er ev k => q σ H P ρ Q d fr (er.undem dm) ev k⟩
theorem EvNL.undem (dm : Dem ks ks') (h : EvNL X ks' F e f) : EvNL X ks F e f := by
  obtain ⟨t, p, q⟩ := h.ex
  exact ⟨t, p, fun σ H P ρ Q d fr er ev k => q σ H P ρ Q d fr (er.undem dm) ev k⟩
end

/-! ### which stores are exchanged -/
def swB (c : SC) (e : Expr) (x : Str) (p : Pos) : Bool :=
  match e with
  | .ListComp _ _ s q => decide (c.scope.names.lookup x = some .local) && p.line == q.line && !(s.names.any fun (n, k) => n == x && (k == .local || k == .cell))
  | .SetComp _ _ s q => decide (c.scope.names.lookup x = some .local) && p.line == q.line && !(s.names.any fun (n, k) => n == x && (k == .local || k == .cell))
  | .DictComp _ _ _ s q => decide (c.scope.names.lookup x = some .local) && p.line == q.line && !(s.names.any fun (n, k) => n == x && (k == .local || k == .cell))
  | _ => false
section
variable {T : Tab} {c : SC} {X : Cx} {F : Fn}
theorem XOk.block (ok : XOk T c X F) : X.env.blockKind = .function := by
  unfold PySem.Env.blockKind
  rw [ok.sc, ok.kind]
  rfl
theorem beq_dec (a : Option NameKind) (b : Option NameKind) : (a == b) = decide (a = b) := by
  by_cases h : a = b
  · subst h; simp
  · rw [decide_eq_false h]
    exact beq_false_of_ne h
theorem swap_name (ok : XOk T c X F) (e : Expr) (x : Str) (p : Pos) (line : Nat) : swapsWith e (some (.Name x p)) line X.env = pure (swB c e x p) := by
  have hb : (X.env.blockKind == ScopeKind.function) = true := by rw [ok.block]; rfl
  have hk : X.env.kindOf x = c.scope.names.lookup x := by
    unfold PySem.Env.kindOf
    rw [ok.sc]
  cases e <;> first | rfl | skip
  all_goals
    unfold swapsWith swB
    simp only [hb, hk, Bool.true_and, beq_dec]
    rfl
theorem swap_other {tg : Expr} (h : ∀ x p, tg ≠ .Name x p) (e : Expr) (line : Nat) (env : PySem.Env) : swapsWith e (some tg) line env = pure false := by
  cases e <;> first | rfl | (cases tg <;> first | rfl | exact absurd rfl (h _ _))
def swS (c : SC) (ts vs : List Expr) : Option (Option (List Str)) :=
  if !(ts.length == 2 || ts.length == 3) || vs.length != ts.length then some none
  else if !(vs.all noStar) then some none
  else
    let line := (ts.head?.map (·.pos.line)).getD 0
    let names := ts.filterMap fun
      | .Name id pos => if decide (c.scope.names.lookup id = some .local) && pos.line == line then some id else none
      | _ => none
    if names.length != ts.length || names.eraseDups.length != names.length then some none
    else if vs.all (foldedForSure 8) then some none
    else if vs.all (constantsAlone 8) then none
    else some (some names)
theorem any_star : ∀ vs : List Expr, (vs.any fun | .Starred .. => true | _ => false) = !(vs.all noStar)
  | [] => rfl
  | v :: vs => by
    rw [List.any_cons, List.all_cons, any_star vs, Bool.not_and]
    cases v <;> rfl
theorem swS_ok (ok : XOk T c X F) {ts vs : List Expr} {o : Option (List Str)} {k k2 : Nat} {p p2 : Pos} (h : swS c ts vs = some o) : swappedStores [.Tuple ts k p] (.Tuple vs k2 p2) X.env = pure o := by
  have hb : (X.env.blockKind != ScopeKind.function) = false := by rw [ok.block]; rfl
  have hk : ∀ x, X.env.kindOf x = c.scope.names.lookup x := fun x => by
    unfold PySem.Env.kindOf
    rw [ok.sc]
  unfold swappedStores
  unfold swS at h
  dsimp only at h ⊢
  rw [hb, Bool.or_false]
  simp only [hk, beq_dec]
  by_cases c1 : (!(ts.length == 2 || ts.length == 3) || vs.length != ts.length) = true
  · rw [if_pos c1] at h ⊢
    cases h; rfl
  · rw [if_neg c1] at h ⊢
    by_cases c2 : (!(vs.all noStar)) = true
    · rw [if_pos c2] at h
      cases h
      exact if_pos ((any_star vs).trans c2)
    · rw [if_neg c2] at h
      refine Eq.trans (if_neg fun z => c2 ((any_star vs).symm.trans z)) ?_
      split at h
      · rename_i c3
        cases h
        exact if_pos c3
      · rename_i c3
        refine Eq.trans (if_neg c3) ?_
        split at h
        · rename_i c4
          cases h
          exact if_pos c4
        · rename_i c4
          refine Eq.trans (if_neg c4) ?_
          split at h
          · cases h
          · rename_i c5
            cases h
            exact if_neg c5
theorem sw_name {x : Str} {p : Pos} (e : Expr) (env : PySem.Env) : swappedStores [.Name x p] e env = pure none := by cases e <;> rfl
theorem sw_sub {a b : Expr} {p : Pos} (e : Expr) (env : PySem.Env) : swappedStores [.Subscript a b p] e env = pure none := by cases e <;> rfl
def notTup : Expr → Bool
  | .Tuple _ _ _ => false
  | _ => true
theorem sw_tup {ts : List Expr} {k : Nat} {p : Pos} {e : Expr} (h : notTup e = true) (env : PySem.Env) : swappedStores [.Tuple ts k p] e env = pure none := by cases e <;> first | rfl | cases h
end
end RE
/-! RE17: expressions, with their proofs. -/
namespace RE
open PySem PySem.Spec PyProof.Rows L2

abbrev CN (T : Tab) (c : SC) (ks : Ks) (e : Expr) := Option { f : SE // ∀ X F, XOk T c X F → EvN X ks F e f }
abbrev CNS (T : Tab) (c : SC) (ks : Ks) (e : Expr) := Option { f : SE // ∀ X F, XOk T c X F → EvNS X ks F e f }
abbrev CE (T : Tab) (c : SC) (ks : Ks) (e : Expr) := Option { f : SE // ∀ X F, XOk T c X F → EvE X ks F e f }
abbrev CP (T : Tab) (c : SC) (ks : Ks) (e : Expr) := Option { f : SE // ∀ X F, XOk T c X F → EvP X ks F e f }
abbrev CT (T : Tab) (c : SC) (ks : Ks) (e : Expr) := Option { f : SB // ∀ X F, XOk T c X F → EvT X ks F e f }
abbrev CW (T : Tab) (c : SC) (ks : Ks) (e : Expr) := Option { f : SB // ∀ X F, XOk T c X F → EvW X ks F e f }
abbrev CA (T : Tab) (c : SC) (ks : Ks) (pk : List Kind) (es : List Expr) := Option { g : SA // (∀ F ρ ds, g F ρ = some ds → ds.length = es.length) ∧ ∀ X F, XOk T c X F → EvA X ks F pk es g }
abbrev CI (T : Tab) (c : SC) (ks : Ks) (tg e : Expr) := Option { f : SL // ∀ X F, XOk T c X F → EvI X ks F tg e f }
abbrev CQ (T : Tab) (c : SC) (ks : Ks) (e : Expr) := Option { f : SE // ∀ X F, XOk T c X F → EvQ X ks F e f }
abbrev CG (T : Tab) (c : SC) (ks : Ks) (tg : Expr) := Option { p : List Nat × SG // (∀ X F, XOk T c X F → EvG X ks tg p.1 p.2) ∧ Touches p.2 p.1 ∧ ∀ j ∈ p.1, kd ks j = .F }
abbrev CGs (T : Tab) (c : SC) (ks : Ks) (tgs : List Expr) := Option { p : List Nat × SGs // (∀ X F, XOk T c X F → EvGs X ks tgs p.1 p.2) ∧ TouchesL p.2 p.1 ∧ Takes p.2 tgs.length ∧ ∀ j ∈ p.1, kd ks j = .F }
structure Rec (T : Tab) where
  n : ∀ c ks e, CN T c ks e
  s : ∀ c ks e, CNS T c ks e
  e : ∀ c ks e, CE T c ks e
  p : ∀ c ks e, CP T c ks e
  t : ∀ c ks e, CT T c ks e
  i : ∀ c ks tg e, CI T c ks tg e
section
variable {T : Tab} (r : Rec T) (c : SC) (ks : Ks)
theorem cCons_len {f : SE} {g : SA} {es : List Expr} {e : Expr} (h : ∀ F ρ ds, g F ρ = some ds → ds.length = es.length) : ∀ F ρ ds, cCons f g F ρ = some ds → ds.length = (e :: es).length := fun F ρ ds ev => by
  obtain ⟨d, e1, ev⟩ := Option.bind_eq_some_iff.mp ev
  obtain ⟨ds', e2, ev⟩ := Option.bind_eq_some_iff.mp ev
  cases ev
  rw [List.length_cons, List.length_cons, h F ρ ds' e2]
def compA : (pk : List Kind) → (es : List Expr) → CA T c ks pk es
  | pk, [] => some ⟨cNil, fun F ρ ds e => by cases e; rfl, fun X F ok => evA_nil⟩
  | pk, e :: es => if hs : noStar e = true then
      if hk : pk.headD .F = .F then (r.e c ks e).bind fun f => (compA pk.tail es).map fun g => ⟨cCons f.1 g.1, cCons_len g.2.1, fun X F ok => evA_consE hk hs (f.2 X F ok) (g.2.2 X F ok)⟩
      else (r.p c ks e).bind fun f => (compA pk.tail es).map fun g => ⟨cCons f.1 g.1, cCons_len g.2.1, fun X F ok => evA_consP hk hs (f.2 X F ok) (g.2.2 X F ok)⟩
    else none
mutual
def compG : Nat → (tg : Expr) → CG T c ks tg
  | 0, _ => none
  | n + 1, .Name x pos => match hi : c.ix x with
    | some i => if h : c.loc x = true ∧ c.sto x = true ∧ kd ks i = .F then
        some ⟨([i], gN i), fun X F ok => evG_name ok.nodup (ok.ix hi) (ok.loc h.1) h.2.2 (ok.sto x h.2.1), touches_name, fun j hj => by rw [List.mem_singleton.mp hj]; exact h.2.2⟩
      else none
    | none => none
  | n + 1, .Tuple ts k pos => if h : ts.all noStar = true then (compGs n ts).map fun p => ⟨(p.1.1, gT p.1.2), fun X F ok => evG_tup ok.calm h p.2.2.2.1 (p.2.1 X F ok), touches_tup p.2.2.1, p.2.2.2.2⟩ else none
  | _, _ => none
def compGs : Nat → (tgs : List Expr) → CGs T c ks tgs
  | 0, _ => none
  | n + 1, [] => some ⟨([], gsNil), fun X F ok => evGs_nil, touches_nil, takes_nil, fun j hj => by cases hj⟩
  | n + 1, t :: ts => if h : noStar t = true then (compG n t).bind fun p => (compGs n ts).map fun q => ⟨(p.1.1 ++ q.1.1, gsCons p.1.2 q.1.2), fun X F ok => evGs_cons h (p.2.1 X F ok) (q.2.1 X F ok), touches_cons p.2.2.1 q.2.2.1, takes_cons q.2.2.2.1, fun j hj => (List.mem_append.mp hj).elim (p.2.2.2 j) (q.2.2.2.2 j)⟩ else none
end
def compQ : (e : Expr) → CQ T c ks e
  | .Name x pos => match hi : c.ix x with
    | some i => if h : c.vis x = true ∧ plainName x = true then
        if hk : kd ks i = .L ∨ kd ks i = .B then some ⟨cV i, fun X F ok => evQ_var (ok.ix hi) (ok.vis h.1) hk (plain_d h.2) (plain_c h.2)⟩
        else (r.e c ks (.Name x pos)).map fun f => ⟨f.1, fun X F ok => (f.2 X F ok).toQ⟩
      else none
    | none => none
  | e => (r.e c ks e).map fun f => ⟨f.1, fun X F ok => (f.2 X F ok).toQ⟩
def compTs : (ifs : List Expr) → Option { f : SB // ∀ X F, XOk T c X F → EvTs X ks F ifs f }
  | [] => some ⟨cTrue, fun X F ok => evTs_nil⟩
  | [e] => (r.t c ks e).map fun f => ⟨f.1, fun X F ok => evTs_one (f.2 X F ok)⟩
  | _ => none
def slotsOf : Expr → List Nat
  | .Name x _ => (c.ix x).toList
  | .Call _ es _ _ => es.filterMap fun | .Name x _ => c.ix x | _ => none
  | _ => []
def ownOf (scope : Scope) : List (Str × Nat) := scope.names.filterMap fun (n, k) => if (decide (k = .local) || decide (k = .cell)) = true then (c.ix n).map fun i => (n, i) else none
theorem plainIter_ok {iter : Expr} (h : plainIter iter = true) (env : PySem.Env) : ∀ x, foldedSetIterable iter env x = pure x := by
  intro x
  cases iter <;> first | rfl | cases h
def compLc (ks' : Ks) (elt tg iter : Expr) (ifs : List Expr) (scope : Scope) (pos : Pos) : CNS T c ks' (.ListComp elt [⟨tg, iter, ifs, 0⟩] scope pos) :=
  if h : blkC c.N c.scope scope (ownOf c scope) = true ∧ scope.kind = .function ∧ plainIter iter = true then
    let kb := setF ((ownOf c scope).map (·.2)) 0 ks'
    (r.i c ks' tg iter).bind fun fi => (compG (T := T) (c.blk scope) kb 20 tg).bind fun g => (compTs r (c.blk scope) kb ifs).bind fun ft => (r.e (c.blk scope) kb elt).bind fun fe =>
      if his : ∀ j ∈ g.1.1, j ∈ (ownOf c scope).map (·.2) then
        some ⟨cLc ((ownOf c scope).map (·.2)) fi.1 g.1.2 ft.1 fe.1, fun X F ok => evNS_lc ok.calm ok.nodup (fi.2 X F ok) (by rw [ok.hN, ok.sc]; exact blkOk_by h.1) his (fun i hi => kd_setF _ ks' 0 i (by rw [Nat.zero_add]; exact hi))
          (fun s H C cl fp => g.2.1 _ F (ok.blk h.2.1 s H C cl fp)) (fun s H C cl fp => ft.2 _ F (ok.blk h.2.1 s H C cl fp)) (fun s H C cl fp => fe.2 _ F (ok.blk h.2.1 s H C cl fp)) (plainIter_ok h.2.2 X.env)⟩
      else none
  else none
def compNL (elt tg iter : Expr) (scope : Scope) (pos : Pos) : Option { f : SE // ∀ X F, XOk T c X F → EvNL X ks F (.ListComp elt [⟨tg, iter, [], 0⟩] scope pos) f } :=
  if h : blkC c.N c.scope scope (ownOf c scope) = true ∧ scope.kind = .function ∧ plainIter iter = true then
    let ks' := demote (slotsOf c iter) 0 ks
    let kb := setF ((ownOf c scope).map (·.2)) 0 ks'
    (r.i c ks' tg iter).bind fun fi => (compG (T := T) (c.blk scope) kb 20 tg).bind fun g => (r.n (c.blk scope) kb elt).bind fun fe =>
      if his : ∀ j ∈ g.1.1, j ∈ (ownOf c scope).map (·.2) then
        some ⟨cNL ((ownOf c scope).map (·.2)) fi.1 g.1.2 fe.1, fun X F ok => (evNL_lc ok.calm ok.nodup (fi.2 X F ok) (by rw [ok.hN, ok.sc]; exact blkOk_by h.1) his (fun i hi => kd_setF _ ks' 0 i (by rw [Nat.zero_add]; exact hi))
          (fun s H C cl fp => g.2.1 _ F (ok.blk h.2.1 s H C cl fp)) (fun s H C cl fp => fe.2 _ F (ok.blk h.2.1 s H C cl fp)) (plainIter_ok h.2.2 X.env)).undem (dem_demote _ ks 0)⟩
      else none
  else none
def compLc2 (ks' : Ks) (elt tg iter tg1 iter1 : Expr) (ifs ifs1 : List Expr) (scope : Scope) (pos : Pos) : CNS T c ks' (.ListComp elt [⟨tg, iter, ifs, 0⟩, ⟨tg1, iter1, ifs1, 0⟩] scope pos) :=
  if h : blkC c.N c.scope scope (ownOf c scope) = true ∧ scope.kind = .function ∧ plainIter iter = true ∧ plainIter iter1 = true then
    let kb := setF ((ownOf c scope).map (·.2)) 0 ks'
    (r.i c ks' tg iter).bind fun fi => (compG (T := T) (c.blk scope) kb 20 tg).bind fun g => (compTs r (c.blk scope) kb ifs).bind fun ft => (r.i (c.blk scope) kb tg1 iter1).bind fun fi1 =>
      (compG (T := T) (c.blk scope) kb 20 tg1).bind fun g1 => (compTs r (c.blk scope) kb ifs1).bind fun ft1 => (r.e (c.blk scope) kb elt).bind fun fe =>
      if his : (∀ j ∈ g.1.1, j ∈ (ownOf c scope).map (·.2)) ∧ ∀ j ∈ g1.1.1, j ∈ (ownOf c scope).map (·.2) then
        some ⟨cLc2 ((ownOf c scope).map (·.2)) g1.1.1 fi.1 g.1.2 ft.1 fi1.1 g1.1.2 ft1.1 fe.1, fun X F ok => evNS_lc2 ok.calm ok.nodup (fi.2 X F ok) (by rw [ok.hN, ok.sc]; exact blkOk_by h.1) his.1 his.2 (fun _ z => z) (fun i hi => kd_setF _ ks' 0 i (by rw [Nat.zero_add]; exact hi)) g.2.2.1 g.2.2.2
          (fun s H C cl fp => g.2.1 _ F (ok.blk h.2.1 s H C cl fp)) (fun s H C cl fp => ft.2 _ F (ok.blk h.2.1 s H C cl fp)) (fun s H C cl fp => fi1.2 _ F (ok.blk h.2.1 s H C cl fp)) (fun s H C cl fp => g1.2.1 _ F (ok.blk h.2.1 s H C cl fp)) (fun s H C cl fp => ft1.2 _ F (ok.blk h.2.1 s H C cl fp)) (fun s H C cl fp => fe.2 _ F (ok.blk h.2.1 s H C cl fp)) (plainIter_ok h.2.2.1 X.env) (fun env => plainIter_ok h.2.2.2 env)⟩
      else none
  else none
/-- a list comprehension over a dict's keys -/
def compLcD (elt tg : Expr) (x : Str) (p : Pos) (ifs : List Expr) (scope : Scope) (pos : Pos) : CNS T c ks (.ListComp elt [⟨tg, .Name x p, ifs, 0⟩] scope pos) :=
  match hi : c.ix x with
  | some i => if h : blkC c.N c.scope scope (ownOf c scope) = true ∧ scope.kind = .function ∧ c.vis x = true ∧ plainName x = true then
    let kb := setF ((ownOf c scope).map (·.2)) 0 ks
    (compG (T := T) (c.blk scope) kb 20 tg).bind fun g => (compTs r (c.blk scope) kb ifs).bind fun ft => (r.e (c.blk scope) kb elt).bind fun fe =>
      if his : ∀ j ∈ g.1.1, j ∈ (ownOf c scope).map (·.2) then
        some ⟨cLc ((ownOf c scope).map (·.2)) (cKeys i) g.1.2 ft.1 fe.1, fun X F ok => evNS_lcD ok.calm ok.nodup (ok.ix hi) (ok.vis h.2.2.1) (plain_d h.2.2.2) (plain_c h.2.2.2) (by rw [ok.hN, ok.sc]; exact blkOk_by h.1) his (fun i hi => kd_setF _ ks 0 i (by rw [Nat.zero_add]; exact hi))
          (fun s H C cl fp => g.2.1 _ F (ok.blk h.2.1 s H C cl fp)) (fun s H C cl fp => ft.2 _ F (ok.blk h.2.1 s H C cl fp)) (fun s H C cl fp => fe.2 _ F (ok.blk h.2.1 s H C cl fp)) (fun _ => rfl)⟩
      else none
    else none
  | none => none
def stepS : (e : Expr) → CNS T c ks e
  | .ListComp elt [⟨tg, iter, ifs, 0⟩, ⟨tg1, iter1, ifs1, 0⟩] scope pos => (compLc2 r c (demote (slotsOf c iter ++ slotsOf c iter1) 0 ks) elt tg iter tg1 iter1 ifs ifs1 scope pos).map fun f => ⟨f.1, fun X F ok => (f.2 X F ok).undem (dem_demote _ ks 0)⟩
  | .ListComp elt [⟨tg, .Name x p, ifs, 0⟩] scope pos => if T.dn c.N x = true then compLcD r c ks elt tg x p ifs scope pos else (compLc r c (demote (slotsOf c (.Name x p)) 0 ks) elt tg (.Name x p) ifs scope pos).map fun f => ⟨f.1, fun X F ok => (f.2 X F ok).undem (dem_demote _ ks 0)⟩
  | .ListComp elt [⟨tg, iter, ifs, 0⟩] scope pos => (compLc r c (demote (slotsOf c iter) 0 ks) elt tg iter ifs scope pos).map fun f => ⟨f.1, fun X F ok => (f.2 X F ok).undem (dem_demote _ ks 0)⟩
  | _ => none
/-- a slice's part -/
def compO : (o : Option Expr) → Option { f : SO // ∀ X F, XOk T c X F → EvO X ks F o f }
  | none => some ⟨cNone, fun X F ok => evO_none⟩
  | some e => (r.p c ks e).map fun f => ⟨cPart f.1, fun X F ok => evO_some (f.2 X F ok)⟩
end
end RE
/-! RE18: expressions, with their proofs, by forms. -/
namespace RE
open PySem PySem.Spec PyProof.Rows L2

/-- types by their names -/
def tyOf (y : Str) : Option { U : String // Str.ofString U = y ∧ tyKnown U = true ∧ bootBuiltins y = some (.type U) } :=
  if h : y = "int" then some ⟨"int", by rw [h]; exact ⟨rfl, by decide +kernel, by decide +kernel⟩⟩
  else if h : y = "bool" then some ⟨"bool", by rw [h]; exact ⟨rfl, by decide +kernel, by decide +kernel⟩⟩
  else if h : y = "str" then some ⟨"str", by rw [h]; exact ⟨rfl, by decide +kernel, by decide +kernel⟩⟩
  else if h : y = "tuple" then some ⟨"tuple", by rw [h]; exact ⟨rfl, by decide +kernel, by decide +kernel⟩⟩
  else if h : y = "list" then some ⟨"list", by rw [h]; exact ⟨rfl, by decide +kernel, by decide +kernel⟩⟩
  else none
theorem xop_units {T : Tab} {c : SC} {X : Cx} {F : Fn} (ok : XOk T c X F) : X.A.units + 65 < cLine ∧ X.A.units + 64 < cLine ∧ X.A.units + 1 < cLine := by
  have := ok.un
  omega
section
variable {T : Tab} (r : Rec T) (c : SC) (ks : Ks)
/-- a global name's look -/
def glB (x : Str) : Bool := c.gl x && plainName x
def bltB (T : Tab) (c : SC) (x : Str) : Bool := c.gl x && plainName x && decide (x ∈ T.blt)
theorem bltB_ok {T : Tab} {c : SC} {x : Str} {X : Cx} {F : Fn} (ok : XOk T c X F) (h : bltB T c x = true) : Gl X x ∧ X.mg x = none ∧ (x == ("__debug__" : Str)) = false ∧ x ≠ "__name__" := by
  unfold bltB at h
  rw [Bool.and_eq_true, Bool.and_eq_true, decide_eq_true_eq] at h
  exact ⟨ok.gl h.1.1, ok.blt x h.2, plain_d h.1.2, plain_n h.1.2⟩
def compConst (x : Str) (pos : Pos) : CN T c ks (.Name x pos) :=
  match hd : T.glb.lookup x with
  | some d => if h : c.gl x = true ∧ plainName x = true then some ⟨cC d, fun X F ok => by
      obtain ⟨v, u, h1, h2, h3⟩ := ok.glb x d hd
      exact evN_glob h1 (ok.gl h.1) h2 h3 (plain_d h.2)⟩ else none
  | none => none
def compIsi (e : Expr) (p pos : Pos) : (k : Expr) → CN T c ks (.Call (.Name "isinstance" p) [e, k] [] pos)
  | .Name y p2 => (tyOf y).bind fun U => if h : bltB T c "isinstance" = true ∧ bltB T c y = true ∧ noStar e = true then (r.p c ks e).map fun f => ⟨cU (isiD [U.1]) f.1, fun X F ok => by
      obtain ⟨U, hU, h2, h3⟩ := U
      subst hU
      have a := bltB_ok ok h.1
      have b := bltB_ok ok h.2.1
      exact evN_isi a.1 a.2.1 h2 b.1 b.2.1 h3 b.2.2.2 b.2.2.1 h.2.2 (f.2 X F ok)⟩ else none
  | .Tuple [.Name y p2, .Name z p3] kt p4 => (tyOf y).bind fun U => (tyOf z).bind fun W => if h : bltB T c "isinstance" = true ∧ bltB T c y = true ∧ bltB T c z = true ∧ noStar e = true then (r.p c ks e).map fun f => ⟨cU (isiD [U.1, W.1]) f.1, fun X F ok => by
      obtain ⟨U, hU, h2, h3⟩ := U
      obtain ⟨W, hW, h4, h5⟩ := W
      subst hU hW
      have a := bltB_ok ok h.1
      have b := bltB_ok ok h.2.1
      have b' := bltB_ok ok h.2.2.1
      exact evN_isi2 a.1 a.2.1 h2 b.1 b.2.1 h3 b.2.2.2 b.2.2.1 h4 b'.1 b'.2.1 h5 b'.2.2.2 b'.2.2.1 h.2.2.2 (f.2 X F ok)⟩ else none
  | _ => none
noncomputable def compBf (x : Str) (p pos : Pos) (a : Expr) (es : List Expr) : CN T c ks (.Call (.Name x p) (a :: es) [] pos) :=
  match hb : bfs.find? fun b => decide (b.x = x) && b.n == es.length + 1 with
  | some b => if h : bltB T c b.x = true ∧ (a :: es).all noStar = true then (compA r c ks [.B, .B, .B, .B] (a :: es)).map fun g => ⟨cCall b.op g.1, fun X F ok => by
      have hx : b.x = x := by
        have := List.find?_some hb
        rw [Bool.and_eq_true] at this
        exact of_decide_eq_true this.1
      subst hx
      have q := h.1
      unfold bltB at q
      rw [Bool.and_eq_true, Bool.and_eq_true, decide_eq_true_eq] at q
      exact evN_bf ok b q.1.1 q.2 q.1.2 h.2 (g.2.2 X F ok)⟩ else none
  | none => none
def compFn (x : Str) (p pos : Pos) (es : List Expr) : CE T c ks (.Call (.Name x p) es [] pos) :=
  match hf : T.fns.lookup x with
  | some pk => if h : c.gl x = true ∧ plainName x = true ∧ es.all noStar = true ∧ es.length = pk.ks.length then (compA r c ks pk.ks es).map fun g => ⟨cFn x g.1, fun X F ok => evE_call (ok.fns x pk hf) (ok.gl h.1) (plain_d h.2.1) h.2.2.1 h.2.2.2 g.2.1 (g.2.2 X F ok)⟩ else none
  | none => none
/-- the defs of n shared parameters -/
def sigIs (T : Tab) (n : Nat) (f : Str) : Bool := match T.fns.lookup f with
  | some pk => decide (pk.ks = List.replicate n Kind.F) && !pk.nw
  | none => false
theorem sigIs_ok {T : Tab} {n : Nat} {f : Str} (h : sigIs T n f = true) : T.fns.lookup f = some ⟨List.replicate n Kind.F, false⟩ := by
  unfold sigIs at h
  split at h
  · rename_i pk e
    rw [Bool.and_eq_true, decide_eq_true_eq, Bool.not_eq_true'] at h
    rw [e]
    obtain ⟨k, w⟩ := pk
    obtain ⟨h1, h2⟩ := h
    have h1 : k = _ := h1
    have h2 : w = false := h2
    subst h1 h2
    rfl
  · cases h
def gsOf (T : Tab) (n : Nat) : List Str := (T.fns.map (·.1)).filter (sigIs T n)
def compFnV (x : Str) (p pos : Pos) (es : List Expr) : CE T c ks (.Call (.Name x p) es [] pos) :=
  match hi : c.ix x with
  | some i => if h : c.vis x = true ∧ plainName x = true ∧ es.isEmpty = false ∧ es.all noStar = true then (compA r c ks (List.replicate es.length .F) es).map fun g => ⟨cFnP i (gsOf T es.length) g.1, fun X F ok =>
      evE_callP (pk := ⟨List.replicate es.length .F, false⟩) (fun f hf => ok.fns f _ (sigIs_ok (List.mem_filter.mp hf).2)) (ok.ix hi) (ok.vis h.1) (plain_d h.2.1) (plain_c h.2.1) (fun z => by subst z; cases h.2.2.1) h.2.2.2 (by rw [List.length_replicate]) g.2.1 (g.2.2 X F ok)⟩ else none
  | none => none
def compFnN (x : Str) (p pos : Pos) (es : List Expr) : CN T c ks (.Call (.Name x p) es [] pos) :=
  match hf : T.fns.lookup x with
  | some pk => if h : c.gl x = true ∧ plainName x = true ∧ es.all noStar = true ∧ es.length = pk.ks.length then
    if hn : pk.nw = true then (compA r c ks pk.ks es).map fun g => ⟨cFn x g.1, fun X F ok => evN_callNew hn (ok.fns x pk hf) (ok.gl h.1) (plain_d h.2.1) h.2.2.1 h.2.2.2 g.2.1 (g.2.2 X F ok)⟩
    else (compA r c ks pk.ks es).map fun g => ⟨cFnN x g.1, fun X F ok => evN_call (ok.fns x pk hf) (ok.gl h.1) (plain_d h.2.1) h.2.2.1 h.2.2.2 g.2.1 (g.2.2 X F ok)⟩ else none
  | none => none
def compCmp (a b : Expr) (pos : Pos) : (op : CmpOp) → CN T c ks (.Compare a [op] [b] pos)
  | .In => if h : behindInMarks .In b = false then (r.p c ks a).bind fun f => (r.p c ks b).map fun g => ⟨cB inD f.1 g.1, fun X F ok => evN_in (xop_units ok).1 h (f.2 X F ok) (g.2 X F ok)⟩ else none
  | .NotIn => if h : behindInMarks .NotIn b = false then (r.p c ks a).bind fun f => (r.p c ks b).map fun g => ⟨cB notInD f.1 g.1, fun X F ok => evN_notIn (xop_units ok).1 h (f.2 X F ok) (g.2 X F ok)⟩ else none
  | op => if h : behindInMarks op b = false then (cmpF op).bind fun o => (r.p c ks a).bind fun f => (r.p c ks b).map fun g => ⟨cB o.1 f.1 g.1, fun X F ok => by
      obtain ⟨rr, h1, h2⟩ := o.2 X ok.un
      exact evN_cmp h1 h2 h (f.2 X F ok) (g.2 X F ok)⟩ else none
def compCmpT (a b : Expr) (pos : Pos) : (op : CmpOp) → CT T c ks (.Compare a [op] [b] pos)
  | .In => if h : behindInMarks .In b = false then (r.p c ks a).bind fun f => (r.p c ks b).map fun g => ⟨cBT inD f.1 g.1, fun X F ok => evT_in (xop_units ok).1 h (f.2 X F ok) (g.2 X F ok)⟩ else none
  | .NotIn => if h : behindInMarks .NotIn b = false then (r.p c ks a).bind fun f => (r.p c ks b).map fun g => ⟨cBT notInD f.1 g.1, fun X F ok => evT_notIn (xop_units ok).1 h (f.2 X F ok) (g.2 X F ok)⟩ else none
  | op => if h : behindInMarks op b = false then (cmpF op).bind fun o => (r.p c ks a).bind fun f => (r.p c ks b).map fun g => ⟨cBT o.1 f.1 g.1, fun X F ok => by
      obtain ⟨rr, h1, h2⟩ := o.2 X ok.un
      exact evT_cmp h1 h2 h (f.2 X F ok) (g.2 X F ok)⟩ else none
def cChT (o o' : D → D → Option D) (f g h : SE) : SB := fun F ρ => (cCh o o' f g h F ρ).bind boolD
/-- sorted(..) -/
noncomputable def compSortSc (p pos2 pos : Pos) (elt tg iter : Expr) (ifs : List Expr) (scope : Scope) : CN T c ks (.Call (.Name "sorted" p) [.SetComp elt [⟨tg, iter, ifs, 0⟩] scope pos2] [] pos) :=
  if h : bltB T c "sorted" = true ∧ blkC c.N c.scope scope (ownOf c scope) = true ∧ scope.kind = .function ∧ plainIter iter = true then
    let kb := setF ((ownOf c scope).map (·.2)) 0 ks
    (r.i c ks tg iter).bind fun fi => (compG (T := T) (c.blk scope) kb 20 tg).bind fun g => (compTs r (c.blk scope) kb ifs).bind fun ft => (r.e (c.blk scope) kb elt).bind fun fe =>
      if his : ∀ j ∈ g.1.1, j ∈ (ownOf c scope).map (·.2) then
        some ⟨cSs ((ownOf c scope).map (·.2)) fi.1 g.1.2 ft.1 fe.1, fun X F ok => evN_scSort ok.calm ok.un ok.nodup (bltB_ok ok h.1).1 (bltB_ok ok h.1).2.1 (fi.2 X F ok) (by rw [ok.hN, ok.sc]; exact blkOk_by h.2.1) his (fun i hi => kd_setF _ ks 0 i (by rw [Nat.zero_add]; exact hi))
          (fun s H C cl fp => g.2.1 _ F (ok.blk h.2.2.1 s H C cl fp)) (fun s H C cl fp => ft.2 _ F (ok.blk h.2.2.1 s H C cl fp)) (fun s H C cl fp => fe.2 _ F (ok.blk h.2.2.1 s H C cl fp)) (plainIter_ok h.2.2.2 X.env)⟩
      else none
  else none
def argN : Expr → Str
  | .Name x _ => x
  | _ => "set"
noncomputable def compSorted (p pos : Pos) : (a : Expr) → CN T c ks (.Call (.Name "sorted" p) [a] [] pos)
  | .Call (.Name y p2) [e] [] pos2 => if h : y = "set" ∧ bltB T c "sorted" = true ∧ bltB T c "set" = true ∧ noStar e = true then (if T.tk c.N (argN e) = true then (r.p c ks e).map fun f => ⟨cU setSortT f.1, fun X F ok => by
      obtain ⟨rfl, h1, h2, h3⟩ := h
      have a := bltB_ok ok h1
      have b := bltB_ok ok h2
      exact evN_setSortT ok.calm ok.un a.1 a.2.1 b.1 b.2.1 h3 (f.2 X F ok)⟩ else (r.p c ks e).map fun f => ⟨cU setSortD f.1, fun X F ok => by
      obtain ⟨rfl, h1, h2, h3⟩ := h
      have a := bltB_ok ok h1
      have b := bltB_ok ok h2
      exact evN_setSort ok.calm ok.un a.1 a.2.1 b.1 b.2.1 h3 (f.2 X F ok)⟩) else compBf r c ks "sorted" p pos (.Call (.Name y p2) [e] [] pos2) []
  | .SetComp elt [⟨tg, iter, ifs, 0⟩] scope pos2 => compSortSc r c ks p pos2 pos elt tg iter ifs scope
  | a => compBf r c ks "sorted" p pos a []
/-- a dict comprehension -/
def compDcS (k : Bool) (kx vx tg iter : Expr) (ifs : List Expr) (scope : Scope) (pos : Pos) : Option { f : SE // ∀ X F, XOk T c X F → EvMS X ks F (.DictComp kx vx [⟨tg, iter, ifs, 0⟩] scope pos) f } :=
  if h : blkC c.N c.scope scope (ownOf c scope) = true ∧ scope.kind = .function ∧ plainIter iter = true then
    let kb := setF ((ownOf c scope).map (·.2)) 0 ks
    (r.i c ks tg iter).bind fun fi => (compG (T := T) (c.blk scope) kb 20 tg).bind fun g => (compTs r (c.blk scope) kb ifs).bind fun ft => (r.e (c.blk scope) kb kx).bind fun fk => (r.e (c.blk scope) kb vx).bind fun fe =>
      if his : ∀ j ∈ g.1.1, j ∈ (ownOf c scope).map (·.2) then
        some ⟨cDc k ((ownOf c scope).map (·.2)) fi.1 g.1.2 ft.1 fk.1 fe.1, fun X F ok => evMS_dc k (xop_units ok).2.2 ok.calm ok.nodup (fi.2 X F ok) (by rw [ok.hN, ok.sc]; exact blkOk_by h.1) his (fun i hi => kd_setF _ ks 0 i (by rw [Nat.zero_add]; exact hi))
          (fun s H C cl fp => g.2.1 _ F (ok.blk h.2.1 s H C cl fp)) (fun s H C cl fp => ft.2 _ F (ok.blk h.2.1 s H C cl fp)) (fun s H C cl fp => fk.2 _ F (ok.blk h.2.1 s H C cl fp)) (fun s H C cl fp => fe.2 _ F (ok.blk h.2.1 s H C cl fp)) (plainIter_ok h.2.2 X.env)⟩
      else none
  else none
def compDc (k : Bool) (kx vx tg iter : Expr) (ifs : List Expr) (scope : Scope) (pos : Pos) : Option { f : SE // ∀ X F, XOk T c X F → EvM X ks F (.DictComp kx vx [⟨tg, iter, ifs, 0⟩] scope pos) f } :=
  (compDcS r c ks k kx vx tg iter ifs scope pos).map fun f => ⟨f.1, fun X F ok => (f.2 X F ok).toM⟩
/-- over x.items() -/
def compDcI (k : Bool) (kx vx : Expr) (elts : List Expr) (kk : Nat) (tpos : Pos) (x : Str) (p : Pos) (m : Str) (apos cpos : Pos) (ifs : List Expr) (scope : Scope) (pos : Pos) : Option { f : SE // ∀ X F, XOk T c X F → EvM X ks F (.DictComp kx vx [⟨.Tuple elts kk tpos, .Call (.Attribute (.Name x p) m apos) [] [] cpos, ifs, 0⟩] scope pos) f } :=
  match hi : c.ix x with
  | some i => if h : m = "items" ∧ blkC c.N c.scope scope (ownOf c scope) = true ∧ scope.kind = .function ∧ c.vis x = true ∧ plainName x = true ∧ (apos.endLine == cpos.line) = true then
    let kb := setF ((ownOf c scope).map (·.2)) 0 ks
    (compG (T := T) (c.blk scope) kb 20 (.Tuple elts kk tpos)).bind fun g => (compTs r (c.blk scope) kb ifs).bind fun ft => (r.e (c.blk scope) kb kx).bind fun fk => (r.e (c.blk scope) kb vx).bind fun fe =>
      if his : ∀ j ∈ g.1.1, j ∈ (ownOf c scope).map (·.2) then
        some ⟨cDc k ((ownOf c scope).map (·.2)) (cItems i) g.1.2 ft.1 fk.1 fe.1, fun X F ok => by
          obtain ⟨rfl, h1, h2, h3, h4, h5⟩ := h
          exact evM_dcI k (xop_units ok).2.2 ok.calm ok.nodup (ok.ix hi) (ok.vis h3) (plain_d h4) (plain_c h4) h5 (by rw [ok.hN, ok.sc]; exact blkOk_by h1) his (fun i hi => kd_setF _ ks 0 i (by rw [Nat.zero_add]; exact hi))
            (fun s H C cl fp => g.2.1 _ F (ok.blk h2 s H C cl fp)) (fun s H C cl fp => ft.2 _ F (ok.blk h2 s H C cl fp)) (fun s H C cl fp => fk.2 _ F (ok.blk h2 s H C cl fp)) (fun s H C cl fp => fe.2 _ F (ok.blk h2 s H C cl fp))⟩
      else none
    else none
  | none => none
def compDcA (k : Bool) (kx vx : Expr) : (tg iter : Expr) → (ifs : List Expr) → (scope : Scope) → (pos : Pos) → Option { f : SE // ∀ X F, XOk T c X F → EvM X ks F (.DictComp kx vx [⟨tg, iter, ifs, 0⟩] scope pos) f }
  | .Tuple elts kk tpos, .Call (.Attribute (.Name x p) m apos) [] [] cpos, ifs, scope, pos => compDcI r c ks k kx vx elts kk tpos x p m apos cpos ifs scope pos
  | tg, iter, ifs, scope, pos => compDc r c ks k kx vx tg iter ifs scope pos
/-- the pairs of a dict display -/
def compPrs (pos : Pos) : (keys : List (Option Expr)) → (vals : List Expr) → Option { l : List (SE × SE) // ∀ X F, XOk T c X F → EvPr X ks F pos keys vals l }
  | [], [] => some ⟨[], fun X F ok => evPr_nil⟩
  | some k :: keys, v :: vals => (r.e c ks k).bind fun f => (r.e c ks v).bind fun g => (compPrs pos keys vals).map fun l => ⟨(f.1, g.1) :: l.1, fun X F ok => evPr_cons (f.2 X F ok) (g.2 X F ok) (l.2 X F ok)⟩
  | _, _ => none
def compDisp (keys : List (Option Expr)) (vals : List Expr) (pos : Pos) : Option { f : SE // ∀ X F, XOk T c X F → EvM X ks F (.Dict keys vals pos) f } :=
  if h : keys.all (·.isSome) = true ∧ keys.length = vals.length ∧ keys ≠ [] ∧ keys.length ≤ 15 then (compPrs r c ks pos keys vals).map fun l => ⟨cDisp l.1, fun X F ok => evM_disp (l.2 X F ok) h.1 h.2.1 h.2.2.1 h.2.2.2⟩ else none
/-- a method of a written text -/
def compMethS (a : Str) (k : _) (p : Pos) (m : Str) (apos : Pos) (e : Expr) (pos : Pos) : CN T c ks (.Call (.Attribute (.Constant (.str a) k p) m apos) [e] [] pos) :=
  if h : m = "join" ∧ noStar e = true ∧ (apos.endLine == pos.line) = true then (r.p c ks e).map fun f => ⟨cU (joinD a) f.1, fun X F ok => by
    obtain ⟨rfl, h2, h3⟩ := h
    exact evN_join h2 h3 (f.2 X F ok)⟩ else none
noncomputable def stepN : (e : Expr) → CN T c ks e
  | .Constant (.int i) j pos => some ⟨cC (.int i), fun X F ok => evN_int⟩
  | .Constant (.bool b) j pos => some ⟨cC (.bl b), fun X F ok => evN_bl⟩
  | .Constant .none j pos => some ⟨cC .non, fun X F ok => evN_non⟩
  | .Constant (.str s) j pos => some ⟨cC (.str s), fun X F ok => evN_str⟩
  | .Name x pos => compConst c ks x pos
  | .Tuple es x1 pos => (compA r c ks [] es).map fun g => ⟨cTup g.1, fun X F ok => evN_tup (g.2.2 X F ok)⟩
  | .List es pos => (compA r c ks [] es).map fun g => ⟨cLst g.1, fun X F ok => evN_lst (g.2.2 X F ok)⟩
  | .BinOp a op b pos => (binF op).bind fun o => (r.p c ks a).bind fun f => (r.p c ks b).map fun g => ⟨cB o.1 f.1 g.1, fun X F ok => by
      obtain ⟨rr, h1, h2⟩ := o.2 X ok.un
      exact evN_bin h1 h2 (f.2 X F ok) (g.2 X F ok)⟩
  | .UnaryOp .USub a pos => (r.p c ks a).map fun f => ⟨cU negD f.1, fun X F ok => evN_un un_neg negD_ok (f.2 X F ok)⟩
  | .UnaryOp .Not a pos => (r.p c ks a).map fun f => ⟨cNot f.1, fun X F ok => evN_not (f.2 X F ok)⟩
  | .Compare a [op] [b] pos => compCmp r c ks a b pos op
  | .Compare a [op, op'] [b, d] pos => if h : lastMarks [op, op'] [b, d] = false then (cmpF op).bind fun o => (cmpF op').bind fun o' => (r.p c ks a).bind fun f => (r.p c ks b).bind fun g => (r.p c ks d).map fun k => ⟨cCh o.1 o'.1 f.1 g.1 k.1, fun X F ok => by
      obtain ⟨rr, h1, h2⟩ := o.2 X ok.un
      obtain ⟨rr', h1', h2'⟩ := o'.2 X ok.un
      exact evN_chain h1 h2 h1' h2' (f.2 X F ok) (g.2 X F ok) (k.2 X F ok) h⟩ else none
  | .IfExp t a b pos => (r.t c ks t).bind fun h => (r.n c ks a).bind fun f => (r.n c ks b).map fun g => ⟨cIf h.1 f.1 g.1, fun X F ok => evN_if (h.2 X F ok) (f.2 X F ok) (g.2 X F ok)⟩
  | .Call (.Name x p) [] [] pos => compFnN r c ks x p pos []
  | .Call (.Name x p) [a, b] [] pos => if h : x = "isinstance" then h ▸ compIsi r c ks a p pos b else (compBf r c ks x p pos a [b]).orElse fun _ => compFnN r c ks x p pos [a, b]
  | .Call (.Name x p) [a] [] pos => if h : x = "sorted" then h ▸ compSorted r c ks p pos a else (compBf r c ks x p pos a []).orElse fun _ => compFnN r c ks x p pos [a]
  | .Call (.Name x p) (a :: es) [] pos => (compBf r c ks x p pos a es).orElse fun _ => compFnN r c ks x p pos (a :: es)
  | .Subscript e (.Slice none none (some (.UnaryOp .USub (.Constant (.int 1) k p1) p2)) p3) pos => (r.p c ks e).map fun f => ⟨cU revD f.1, fun X F ok => evN_rev (f.2 X F ok)⟩
  | .Subscript e (.Slice lo hi (some (.Constant (.int n) k p1)) p3) pos => if h : n ≠ 0 then (r.p c ks e).bind fun f => (compO r c ks lo).bind fun g => (compO r c ks hi).map fun q => ⟨cStep f.1 g.1 q.1 n, fun X F ok => evN_step h (f.2 X F ok) (g.2 X F ok) (q.2 X F ok)⟩ else none
  | .Subscript e (.Slice lo hi none p2) pos => (r.p c ks e).bind fun f => (compO r c ks lo).bind fun g => (compO r c ks hi).map fun h => ⟨cSl f.1 g.1 h.1, fun X F ok => evN_slice (f.2 X F ok) (g.2 X F ok) (h.2 X F ok)⟩
  | .Call (.Attribute (.Constant (.str a) k p) m apos) [e] [] pos => compMethS r c ks a k p m apos e pos
  | .Dict [] [] pos => some ⟨cC (.dic (T.tk c.N "") []), fun X F ok => (evM_dnew _).toN⟩
  | .Dict (k0 :: keys) vals pos => (compDisp r c ks (k0 :: keys) vals pos).map fun f => ⟨f.1, fun X F ok => (f.2 X F ok).toN⟩
  | .DictComp kx vx [⟨tg, iter, ifs, 0⟩] scope pos => (compDcA r c ks (T.tk c.N "") kx vx tg iter ifs scope pos).map fun f => ⟨f.1, fun X F ok => (f.2 X F ok).toN⟩
  | e => (r.s c ks e).map fun f => ⟨f.1, fun X F ok => (f.2 X F ok).toN⟩
def compBoolE (pos : Pos) : (op : BoolOp) → (es : List Expr) → CE T c ks (.BoolOp op es pos)
  | op, [a] => (r.e c ks a).map fun f => ⟨f.1, fun X F ok => evE_one (f.2 X F ok)⟩
  | .Or, a :: b :: es => (r.e c ks a).bind fun f => (compBoolE pos .Or (b :: es)).map fun g => ⟨cOr f.1 g.1, fun X F ok => evE_or (f.2 X F ok) (g.2 X F ok)⟩
  | .And, a :: b :: es => (r.e c ks a).bind fun f => (compBoolE pos .And (b :: es)).map fun g => ⟨cAnd f.1 g.1, fun X F ok => evE_and (f.2 X F ok) (g.2 X F ok)⟩
  | _, [] => none
def compW (pos : Pos) : (op : BoolOp) → (es : List Expr) → CW T c ks (.BoolOp op es pos)
  | .And, [a] => (r.t c ks a).map fun f => ⟨f.1, fun X F ok => evW_and1 (f.2 X F ok)⟩
  | .Or, [a] => (r.t c ks a).map fun f => ⟨f.1, fun X F ok => evW_or1 (f.2 X F ok)⟩
  | .Or, a :: b :: es => (r.t c ks a).bind fun f => (compW pos .Or (b :: es)).map fun g => ⟨cOrT f.1 g.1, fun X F ok => evW_or (f.2 X F ok) (g.2 X F ok)⟩
  | .And, a :: b :: es => (r.t c ks a).bind fun f => (compW pos .And (b :: es)).map fun g => ⟨cAndT f.1 g.1, fun X F ok => evW_and (f.2 X F ok) (g.2 X F ok)⟩
  | _, [] => none
def toE (e : Expr) : CE T c ks e := (r.n c ks e).map fun f => ⟨f.1, fun X F ok => (f.2 X F ok).toE⟩
/-- min(..) of one thing -/
def compMin (p pos : Pos) (a : Expr) : CE T c ks (.Call (.Name "min" p) [a] [] pos) :=
  if h : bltB T c "min" = true ∧ noStar a = true then (r.p c ks a).map fun f => ⟨cU minDD f.1, fun X F ok => evE_min ok.calm ok.un (bltB_ok ok h.1).1 (bltB_ok ok h.1).2.1 h.2 (f.2 X F ok)⟩ else none
def stepE : (e : Expr) → CE T c ks e
  | .Name x pos => match hi : c.ix x with
    | some i => if h : c.vis x = true ∧ plainName x = true ∧ kd ks i = .F then some ⟨cV i, fun X F ok => evE_var (ok.ix hi) (ok.vis h.1) h.2.2 (plain_d h.2.1) (plain_c h.2.1)⟩ else none
    | none => toE r c ks (.Name x pos)
  | .BoolOp op es pos => compBoolE r c ks pos op es
  | .IfExp t a b pos => (r.t c ks t).bind fun h => (r.e c ks a).bind fun f => (r.e c ks b).map fun g => ⟨cIf h.1 f.1 g.1, fun X F ok => evE_if (h.2 X F ok) (f.2 X F ok) (g.2 X F ok)⟩
  | .Call (.Name x p) [a] [] pos => if h : x = "min" ∧ T.dn c.N "min" = true then h.1 ▸ compMin r c ks p pos a else (compFn r c ks x p pos [a]).orElse fun _ => toE r c ks (.Call (.Name x p) [a] [] pos)
  | .Call (.Name x p) es [] pos => (compFn r c ks x p pos es).orElse fun _ => (compFnV r c ks x p pos es).orElse fun _ => toE r c ks (.Call (.Name x p) es [] pos)
  | .Subscript a b pos => if h : plainIx b = true then (r.p c ks a).bind fun f => (r.p c ks b).map fun g => ⟨cIx f.1 g.1, fun X F ok => evE_idx (xop_units ok).2.2 h (f.2 X F ok) (g.2 X F ok)⟩ else toE r c ks (.Subscript a b pos)
  | e => toE r c ks e
def toPc (e : Expr) : CP T c ks e := (r.e c ks e).map fun f => ⟨f.1, fun X F ok => (f.2 X F ok).toP⟩
def compFnP (x : Str) (pos : Pos) : CP T c ks (.Name x pos) :=
  match hf : T.fns.lookup x with
  | some pk => if h : c.gl x = true ∧ plainName x = true then some ⟨cC (.fn x), fun X F ok => by
      obtain ⟨a, fd, ps, k, h1, h2, h3, h4, h5⟩ := (ok.fns x pk hf).ex
      exact evP_fn (ok.gl h.1) h3 (plain_d h.2)⟩ else none
  | none => none
def stepP : (e : Expr) → CP T c ks e
  | .Name x pos => match hi : c.ix x with
    | some i => if h : c.vis x = true ∧ plainName x = true then some ⟨cV i, fun X F ok => evP_var (ok.ix hi) (ok.vis h.1) (plain_d h.2) (plain_c h.2)⟩ else none
    | none => (compFnP c ks x pos).orElse fun _ => toPc r c ks (.Name x pos)
  | .IfExp t a b pos => (r.t c ks t).bind fun h => (r.p c ks a).bind fun f => (r.p c ks b).map fun g => ⟨cIf h.1 f.1 g.1, fun X F ok => evP_if (h.2 X F ok) (f.2 X F ok) (g.2 X F ok)⟩
  | e => toPc r c ks e
def stepT : (e : Expr) → CT T c ks e
  | .Compare a [op] [b] pos => compCmpT r c ks a b pos op
  | .Compare a [op, op'] [b, d] pos => if h : lastMarks [op, op'] [b, d] = false then (cmpF op).bind fun o => (cmpF op').bind fun o' => (r.p c ks a).bind fun f => (r.p c ks b).bind fun g => (r.p c ks d).map fun k => ⟨cChT o.1 o'.1 f.1 g.1 k.1, fun X F ok => by
      obtain ⟨rr, h1, h2⟩ := o.2 X ok.un
      obtain ⟨rr', h1', h2'⟩ := o'.2 X ok.un
      exact evT_chain h1 h2 h1' h2' (f.2 X F ok) (g.2 X F ok) (k.2 X F ok) h⟩ else none
  | .BoolOp op es pos => (compW r c ks pos op es).map fun f => ⟨f.1, fun X F ok => (f.2 X F ok).toT⟩
  | .UnaryOp .Not a pos => (r.t c ks a).map fun f => ⟨cNotT f.1, fun X F ok => evT_not (f.2 X F ok)⟩
  | e => if h : plainTest e = true then (r.p c ks e).map fun f => ⟨cTr f.1, fun X F ok => evT_truth h (f.2 X F ok)⟩ else none
def ofQ (tg e : Expr) : CI T c ks tg e := (compQ r c ks e).map fun f => ⟨cWalk f.1, fun X F ok => evI_of (f.2 X F ok)⟩
def compRng1 (tg a : Expr) (p pos : Pos) : CI T c ks tg (.Call (.Name "range" p) [a] [] pos) :=
  if h : bltB T c "range" = true ∧ noStar a = true then (r.p c ks a).map fun f => ⟨cRng1 f.1, fun X F ok => evI_range1 (bltB_ok ok h.1).1 (bltB_ok ok h.1).2.1 h.2 (f.2 X F ok)⟩ else none
def compRng2 (tg a b : Expr) (p pos : Pos) : CI T c ks tg (.Call (.Name "range" p) [a, b] [] pos) :=
  if h : bltB T c "range" = true ∧ noStar a = true ∧ noStar b = true then (r.p c ks a).bind fun f => (r.p c ks b).map fun g => ⟨cRng2 f.1 g.1, fun X F ok => evI_range2 (bltB_ok ok h.1).1 (bltB_ok ok h.1).2.1 h.2.1 h.2.2 (f.2 X F ok) (g.2 X F ok)⟩ else none
def compEnum (a : Expr) (p pos : Pos) : (tg : Expr) → CI T c ks tg (.Call (.Name "enumerate" p) [a] [] pos)
  | .Tuple ts k tp => if h : bltB T c "enumerate" = true ∧ noStar a = true then (compQ r c ks a).map fun f => ⟨cEnum f.1, fun X F ok => evI_enum (bltB_ok ok h.1).1 (bltB_ok ok h.1).2.1 h.2 (f.2 X F ok)⟩ else none
  | _ => none
def compZip (a b : Expr) (p pos : Pos) : (tg : Expr) → CI T c ks tg (.Call (.Name "zip" p) [a, b] [] pos)
  | .Tuple ts k tp => if h : bltB T c "zip" = true ∧ noStar a = true ∧ noStar b = true then (compQ r c ks a).bind fun f => (compQ r c ks b).map fun g => ⟨cZip f.1 g.1, fun X F ok => evI_zip (bltB_ok ok h.1).1 (bltB_ok ok h.1).2.1 h.2.1 h.2.2 (f.2 X F ok) (g.2 X F ok)⟩ else none
  | _ => none
def stepI (tg : Expr) : (e : Expr) → CI T c ks tg e
  | .Call (.Name x p) [a] [] pos => if h : x = "range" then h ▸ compRng1 r c ks tg a p pos else if h : x = "enumerate" then h ▸ compEnum r c ks a p pos tg else ofQ r c ks tg (.Call (.Name x p) [a] [] pos)
  | .Call (.Name x p) [a, b] [] pos => if h : x = "range" then h ▸ compRng2 r c ks tg a b p pos else if h : x = "zip" then h ▸ compZip r c ks a b p pos tg else ofQ r c ks tg (.Call (.Name x p) [a, b] [] pos)
  | e => ofQ r c ks tg e
end
noncomputable def comp (T : Tab) : Nat → Rec T
  | 0 => ⟨fun _ _ _ => none, fun _ _ _ => none, fun _ _ _ => none, fun _ _ _ => none, fun _ _ _ => none, fun _ _ _ _ => none⟩
  | n + 1 => ⟨stepN (comp T n), stepS (comp T n), stepE (comp T n), stepP (comp T n), stepT (comp T n), stepI (comp T n)⟩
end RE
/-! RE19: statements, with their proofs. -/
namespace RE
open PySem PySem.Spec PyProof.Rows L2

abbrev CS (T : Tab) (c : SC) (ks : Ks) (st : Stmt) := Option { f : SS // ∀ X F, XOk T c X F → EvS X ks F st f }
abbrev CSs (T : Tab) (c : SC) (ks : Ks) (sts : List Stmt) := Option { f : SS // ∀ X F, XOk T c X F → EvSs X ks F sts f }
theorem swap_tup {ts : List Expr} {k : Nat} {p : Pos} (e : Expr) (line : Nat) (env : PySem.Env) : swapsWithSole [.Tuple ts k p] e line env = pure false := by
  have h : ∀ x q, Expr.Tuple ts k p ≠ .Name x q := fun _ _ z => nomatch z
  exact swap_other h e line env
theorem swap_sub {a b : Expr} {p : Pos} (e : Expr) (line : Nat) (env : PySem.Env) : swapsWithSole [.Subscript a b p] e line env = pure false := by
  have h : ∀ x q, Expr.Subscript a b p ≠ .Name x q := fun _ _ z => nomatch z
  exact swap_other h e line env
section
variable {T : Tab} (r : Rec T) (c : SC) (ks : Ks)
theorem EvNS.M {X : Cx} {ks : Ks} {F : Fn} {e : Expr} {f : SE} (h : EvN X ks F e f) : EvM X ks F e (cND f) := h.toM
/-- a value for an own slot -/
def compM (x : Str) : (e : Expr) → Option { f : SE // ∀ X F, XOk T c X F → EvM X ks F e f }
  | .Dict [] [] pos => some ⟨cC (.dic (T.tk c.N x) []), fun X F ok => evM_dnew _⟩
  | .Dict (k0 :: keys) vals pos => compDisp r c ks (k0 :: keys) vals pos
  | .DictComp kx vx [⟨tg, iter, ifs, 0⟩] scope pos => compDcA r c ks (T.tk c.N x) kx vx tg iter ifs scope pos
  | e => (r.n c ks e).map fun f => ⟨cND f.1, fun X F ok => (f.2 X F ok).toM⟩
def compV : (is : List Nat) → (es : List Expr) → Option { g : SA // ∀ X F, XOk T c X F → EvV X ks F is es g }
  | [], [] => some ⟨cNil, fun X F ok => evV_nil⟩
  | i :: is, e :: es => if hs : noStar e = true then
      if hk : kd ks i = .F then (r.e c ks e).bind fun f => (compV is es).map fun g => ⟨cCons f.1 g.1, fun X F ok => evV_consF hk hs (f.2 X F ok) (g.2 X F ok)⟩
      else if hk : kd ks i = .M then (compM r c ks (c.N.getD i "") e).bind fun f => (compV is es).map fun g => ⟨cCons f.1 g.1, fun X F ok => evV_consM hk hs (f.2 X F ok) (g.2 X F ok)⟩
      else none
    else none
  | _, _ => none
/-- a target, a value, in the ordinary way -/
def compAsg (tg e : Expr) (pos : Pos) : CS T c ks (.Assign [tg] e pos) :=
  if hn : noStar tg = true then (compG (T := T) c ks 20 tg).bind fun g => (r.e c ks e).bind fun f =>
    match tg with
    | .Name x p => if h : swB c e x p = false then some ⟨sAsg f.1 g.1.2, fun X F ok => evS_asg rfl (f.2 X F ok) (g.2.1 X F ok) g.2.2.1 g.2.2.2 (by show swapsWith e (some (.Name x p)) pos.line X.env = _; rw [swap_name ok, h]) (sw_name e X.env)⟩ else none
    | .Tuple ts k p => match e with
      | .Tuple vs k2 p2 => if h : swS c ts vs = some none then some ⟨sAsg f.1 g.1.2, fun X F ok => evS_asg rfl (f.2 X F ok) (g.2.1 X F ok) g.2.2.1 g.2.2.2 (swap_tup _ _ _) (swS_ok ok h)⟩ else none
      | e => if h : notTup e = true then some ⟨sAsg f.1 g.1.2, fun X F ok => evS_asg rfl (f.2 X F ok) (g.2.1 X F ok) g.2.2.1 g.2.2.2 (swap_tup _ _ _) (sw_tup h X.env)⟩ else none
    | _ => none
  else none
/-- x = e -/
def compName (x : Str) (p pos : Pos) (e : Expr) : CS T c ks (.Assign [.Name x p] e pos) :=
  match hi : c.ix x with
  | none => none
  | some i =>
    if h : c.loc x = true ∧ c.sto x = true ∧ c.vis x = true ∧ plainName x = true then
      if sw : swB c e x p = true ∧ c.scope.names.lookup x = some .local then
        if hk : kd ks i = .F then (r.s c ks e).map fun f => ⟨sAsg f.1 (gN i), fun X F ok => evS_swF (ok.ix hi) (by rw [ok.sc]; exact sw.2) hk (by rw [swap_name ok, sw.1]) (f.2 X F ok)⟩
        else if hk : kd ks i = .M then
          match e with
          | .DictComp kx vx [⟨tg, iter, ifs, 0⟩] scope dp => (compDcS r c ks (T.tk c.N x) kx vx tg iter ifs scope dp).map fun f => ⟨sSetM i f.1, fun X F ok => evS_swMD (ok.ix hi) (by rw [ok.sc]; exact sw.2) hk (by rw [swap_name ok, sw.1]) (f.2 X F ok)⟩
          | e => (r.s c ks e).map fun f => ⟨sSetM i (cND f.1), fun X F ok => evS_swM (ok.ix hi) (by rw [ok.sc]; exact sw.2) hk (by rw [swap_name ok, sw.1]) (f.2 X F ok)⟩
        else none
      else if hk : kd ks i = .M then
        match e with
        | .IfExp t (.Name y p2) b p3 => if hy : y = x then (r.t c ks t).bind fun g => (r.n c ks b).map fun f => ⟨sSetIf i g.1 (cND f.1), fun X F ok => by
              subst hy
              exact evS_setIf ok.nodup (ok.ix hi) (ok.loc h.1) (ok.vis h.2.2.1) (plain_d h.2.2.2) (plain_c h.2.2.2) hk (g.2 X F ok) (f.2 X F ok).toM (ok.sto y h.2.1)⟩ else none
        | e => if hs : swB c e x p = false then (compM r c ks x e).map fun f => ⟨sSetM i f.1, fun X F ok => evS_setM ok.nodup (ok.ix hi) (ok.loc h.1) hk (f.2 X F ok) (by rw [swap_name ok, hs]) (ok.sto x h.2.1)⟩ else none
      else match e with
        | .Call (.Attribute (.Name y xp) a ap) [] [] cp => match hj : c.ix y with
          | some j => if h2 : a = "pop" ∧ c.vis y = true ∧ plainName y = true ∧ kd ks j = .M ∧ kd ks i = .F ∧ (ap.endLine == cp.line) = true then some ⟨sPop i j, fun X F ok => by
              obtain ⟨rfl, h3, h4, h5, h6, h7⟩ := h2
              exact evS_pop ok.nodup (ok.ix hj) (ok.vis h3) (plain_d h4) (plain_c h4) h5 (ok.ix hi) (ok.loc h.1) h6 (ok.sto x h.2.1) rfl h7⟩ else none
          | none => none
        | e => compAsg r c ks (.Name x p) e pos
    else none
def compTup (ts : List Expr) (k : Nat) (p pos : Pos) (e : Expr) : CS T c ks (.Assign [.Tuple ts k p] e pos) :=
  match ts, e with
  | [.Name x px, .Name y py], .Tuple [a, b] k2 pt2 => match hi : c.ix x, hj : c.ix y with
    | some i, some j => if h : i ≠ j ∧ c.scope.names.lookup x = some .local ∧ c.scope.names.lookup y = some .local ∧ (∀ l ∈ [i, j], kd ks l = .F ∨ kd ks l = .M) ∧ swS c [.Name x px, .Name y py] [a, b] = some (some [x, y]) then
        (compV r c ks [i, j] [a, b]).map fun g => ⟨sPar [i, j] g.1, fun X F ok => evS_par2 ok.calm ok.nodup (ok.ix hi) (ok.ix hj) h.1 (by rw [ok.sc]; exact h.2.1) (by rw [ok.sc]; exact h.2.2.1) h.2.2.2.1 (g.2 X F ok) (swS_ok ok h.2.2.2.2)⟩
      else if h : (kd ks i = .M ∨ kd ks j = .M) ∧ (∀ l ∈ [i, j], kd ks l = .F ∨ kd ks l = .M) ∧ c.loc x = true ∧ c.loc y = true ∧ c.sto x = true ∧ c.sto y = true ∧ swS c [.Name x px, .Name y py] [a, b] = some none then
        (compV r c ks [i, j] [a, b]).map fun g => ⟨sPar [i, j] g.1, fun X F ok => evS_unp2 ok.calm ok.nodup (ok.ix hi) (ok.ix hj) (ok.loc h.2.2.1) (ok.loc h.2.2.2.1) (ok.sto x h.2.2.2.2.1) (ok.sto y h.2.2.2.2.2.1) h.2.1 (g.2 X F ok) (swap_tup _ _ _) (swS_ok ok h.2.2.2.2.2.2)⟩
      else compAsg r c ks (.Tuple [.Name x px, .Name y py] k p) (.Tuple [a, b] k2 pt2) pos
    | _, _ => compAsg r c ks (.Tuple [.Name x px, .Name y py] k p) (.Tuple [a, b] k2 pt2) pos
  | [.Name x px, .Name y py, .Name z pz], .Tuple [a, b, d] k2 pt2 => match hi : c.ix x, hj : c.ix y, hl : c.ix z with
    | some i, some j, some l => if h : i ≠ j ∧ i ≠ l ∧ j ≠ l ∧ c.scope.names.lookup x = some .local ∧ c.scope.names.lookup y = some .local ∧ c.scope.names.lookup z = some .local ∧ (∀ n ∈ [i, j, l], kd ks n = .F ∨ kd ks n = .M) ∧ swS c [.Name x px, .Name y py, .Name z pz] [a, b, d] = some (some [x, y, z]) then
        (compV r c ks [i, j, l] [a, b, d]).map fun g => ⟨sPar [i, j, l] g.1, fun X F ok => evS_par3 ok.calm ok.nodup (ok.ix hi) (ok.ix hj) (ok.ix hl) h.1 h.2.1 h.2.2.1 (by rw [ok.sc]; exact h.2.2.2.1) (by rw [ok.sc]; exact h.2.2.2.2.1) (by rw [ok.sc]; exact h.2.2.2.2.2.1) h.2.2.2.2.2.2.1 (g.2 X F ok) (swS_ok ok h.2.2.2.2.2.2.2)⟩
      else compAsg r c ks (.Tuple [.Name x px, .Name y py, .Name z pz] k p) (.Tuple [a, b, d] k2 pt2) pos
    | _, _, _ => compAsg r c ks (.Tuple [.Name x px, .Name y py, .Name z pz] k p) (.Tuple [a, b, d] k2 pt2) pos
  | ts, e => compAsg r c ks (.Tuple ts k p) e pos
def compPut (x : Str) (xp sp pos : Pos) (i e : Expr) : CS T c ks (.Assign [.Subscript (.Name x xp) i sp] e pos) :=
  match hj : c.ix x with
  | some j => if h : c.vis x = true ∧ plainName x = true ∧ kd ks j = .M ∧ plainKey i = true then (r.e c ks e).bind fun g => (r.p c ks i).map fun f => ⟨sPut j f.1 g.1, fun X F ok => evS_put (xop_units ok).2.2 (ok.ix hj) (ok.vis h.1) (plain_d h.2.1) (plain_c h.2.1) h.2.2.1 h.2.2.2 (g.2 X F ok) (f.2 X F ok) (swap_sub _ _ _) (sw_sub _ _)⟩ else none
  | none => none
def compApp (x a : Str) (xp ap cp pos : Pos) (e : Expr) : CS T c ks (.Expr (.Call (.Attribute (.Name x xp) a ap) [e] [] cp) pos) :=
  match hj : c.ix x with
  | some j => if h : a = "append" ∧ c.vis x = true ∧ plainName x = true ∧ kd ks j = .M ∧ noStar e = true ∧ (ap.endLine == cp.line) = true then (r.e c ks e).map fun f => ⟨sApp j f.1, fun X F ok => by
      obtain ⟨rfl, h1, h2, h3, h4, h5⟩ := h
      exact evS_app (ok.ix hj) (ok.vis h1) (plain_d h2) (plain_c h2) h3 h4 (f.2 X F ok) rfl h5⟩ else none
  | none => none
def compUpd (x a : Str) (xp ap cp pos : Pos) : (e : Expr) → CS T c ks (.Expr (.Call (.Attribute (.Name x xp) a ap) [e] [] cp) pos)
  | .Name y yp => match hj : c.ix x, hi : c.ix y with
    | some j, some i => if h : a = "update" ∧ c.vis x = true ∧ plainName x = true ∧ kd ks j = .M ∧ noStar (.Name y yp) = true ∧ (ap.endLine == cp.line) = true ∧ c.vis y = true ∧ plainName y = true ∧ kd ks i = .M ∧ j ≠ i then some ⟨sUpd j (cV i), fun X F ok => by
        obtain ⟨rfl, h1, h2, h3, h4, h5, h6, h7, h8, h9⟩ := h
        exact evS_updV (ok.ix hj) (ok.vis h1) (plain_d h2) (plain_c h2) h3 (ok.ix hi) (ok.vis h6) (plain_d h7) (plain_c h7) h8 h9 h4 h5⟩ else none
    | _, _ => none
  | e => match hj : c.ix x with
    | some j => if h : a = "update" ∧ c.vis x = true ∧ plainName x = true ∧ kd ks j = .M ∧ noStar e = true ∧ (ap.endLine == cp.line) = true then (r.e c ks e).map fun f => ⟨sUpd j f.1, fun X F ok => by
        obtain ⟨rfl, h1, h2, h3, h4, h5⟩ := h
        exact evS_upd (ok.ix hj) (ok.vis h1) (plain_d h2) (plain_c h2) h3 h4 (f.2 X F ok) h5⟩ else none
    | none => none
/-- what a def gives back, new -/
def compR : (e : Expr) → Option { f : SE // ∀ X F, XOk T c X F → EvR X ks F e f }
  | .Name x pos => match hi : c.ix x with
    | some i => if h : c.vis x = true ∧ plainName x = true ∧ kd ks i = .M then some ⟨cV i, fun X F ok => evR_var (ok.ix hi) (ok.vis h.1) h.2.2 (plain_d h.2.1) (plain_c h.2.1)⟩ else none
    | none => none
  | .IfExp t a b pos => (r.t c (frz ks) t).bind fun h => (compR a).bind fun f => (compR b).map fun g => ⟨cIf h.1 f.1 g.1, fun X F ok => evR_if (h.2 X F ok) (f.2 X F ok) (g.2 X F ok)⟩
  | e => (r.n c (frz ks) e).map fun f => ⟨f.1, fun X F ok => (f.2 X F ok).toR⟩
def compSimple : (st : Stmt) → CS T c ks st
  | .Assign [.Name x p] e pos => compName r c ks x p pos e
  | .Assign [.Tuple ts k p] e pos => compTup r c ks ts k p pos e
  | .Assign [.Subscript (.Name x xp) i sp] e pos => compPut r c ks x xp sp pos i e
  | .AugAssign (.Name x p) .Add e pos => match hi : c.ix x with
    | some i => if h : c.loc x = true ∧ c.sto x = true ∧ kd ks i = .F then (r.p c ks e).map fun f => ⟨sAug i f.1, fun X F ok => evS_aug ok.nodup (ok.ix hi) (ok.loc h.1) h.2.2 (f.2 X F ok) (ok.sto x h.2.1)⟩ else none
    | none => none
  | .Expr (.Call (.Attribute (.Name x xp) a ap) [e] [] cp) pos => (compApp r c ks x a xp ap cp pos e).orElse fun _ => compUpd r c ks x a xp ap cp pos e
  | .Expr (.Constant (.str s) j p) pos => some ⟨sNil, fun X F ok => evS_doc⟩
  | .Return (some e) pos => if c.nw = true then (compR r c ks e).map fun f => ⟨sRetT f.1, fun X F ok => evS_retR (f.2 X F ok)⟩ else (r.e c (frz ks) e).map fun f => ⟨sRet f.1, fun X F ok => evS_ret (f.2 X F ok)⟩
  | .Return none pos => some ⟨sRetN, fun X F ok => evS_retN⟩
  | .Pass pos => some ⟨sNil, fun X F ok => evS_pass⟩
  | _ => none
end
section
variable {T : Tab} (r : Rec T) (c : SC) (ks : Ks)
/-- x = [list(..) for ..] and x[i][j] = e behind it? -/
def nestP : Stmt → Stmt → Bool
  | .Assign [.Name _ _] (.ListComp _ [⟨_, _, [], 0⟩] _ _) _, .Assign [.Subscript (.Subscript (.Name _ _) _ _) _ _] _ _ => true
  | _, _ => false
def compNest : (st st2 : Stmt) → (rest : List Stmt) → { f : SS // ∀ X F, XOk T c X F → EvSs X ks F rest f } → CSs T c ks (st :: st2 :: rest)
  | .Assign [.Name x p0] (.ListComp elt [⟨tg, iter, [], 0⟩] scope lp) pos1, .Assign [.Subscript (.Subscript (.Name y p1) i1 p2) i2 p3] e pos2, rest, g =>
    if hy : y = x then match hi : c.ix x with
      | some i => if h : c.vis x = true ∧ plainName x = true ∧ kd ks i = .M ∧ swB c (.ListComp elt [⟨tg, iter, [], 0⟩] scope lp) x p0 = true ∧ c.scope.names.lookup x = some .local ∧ plainIx i1 = true ∧ plainKey i2 = true then
          (compNL r c ks elt tg iter scope lp).bind fun f => (r.e c ks e).bind fun ge => (r.p c ks i1).bind fun f1 => (r.p c ks i2).map fun f2 => ⟨sNest i f.1 f1.1 f2.1 ge.1 g.1, fun X F ok => by
            subst hy
            exact evSs_nest ok.nodup (ok.ix hi) (ok.vis h.1) (plain_d h.2.1) (plain_c h.2.1) h.2.2.1 (by rw [ok.sc]; exact h.2.2.2.2.1) (by rw [swap_name ok, h.2.2.2.1]) (f.2 X F ok) (ge.2 X F ok) (f1.2 X F ok) (f2.2 X F ok) h.2.2.2.2.2.1 h.2.2.2.2.2.2 (swap_sub _ _ _) (sw_sub _ _) (g.2 X F ok)⟩
        else none
      | none => none
    else none
  | _, _, _, _ => none
end
theorem dn_iter {x : Str} {p : Pos} (env : PySem.Env) : ∀ y, foldedSetIterable (.Name x p) env y = pure y := fun _ => rfl
mutual
noncomputable def compSt {T : Tab} (r : Rec T) (c : SC) : Nat → (ks : Ks) → (st : Stmt) → CS T c ks st
  | 0, _, _ => none
  | n + 1, ks, .If t a b pos => (r.t c ks t).bind fun h => (compSs r c n ks a).bind fun f => (compSs r c n ks b).map fun g => ⟨sIf h.1 f.1 g.1, fun X F ok => evS_if (h.2 X F ok) (f.2 X F ok) (g.2 X F ok)⟩
  | n + 1, ks, .While t b [] pos => (r.t c ks t).bind fun h => (compSs r c n ks b).map fun f => ⟨sWhile h.1 f.1, fun X F ok => evS_while ok.own (h.2 X F ok) (f.2 X F ok)⟩
  | n + 1, ks, .For tg (.Name x p) b [] pos =>
    if T.dn c.N x = true then
      match hi : c.ix x with
      | some i => if h : c.vis x = true ∧ plainName x = true ∧ (kd ks i = .F ∨ kd ks i = .B) then
          (compG (T := T) c ks 20 tg).bind fun g => (compSs r c n ks b).map fun f =>
            ⟨sFor (cKeys i) g.1.2 f.1, fun X F ok => evS_forD ok.own ok.calm (ok.ix hi) (ok.vis h.1) (plain_d h.2.1) (plain_c h.2.1) h.2.2 (g.2.1 X F ok) g.2.2.1 g.2.2.2 (f.2 X F ok) (dn_iter X.env)⟩
        else none
      | none => none
    else
      (r.i c (demote (slotsOf c (.Name x p)) 0 ks) tg (.Name x p)).bind fun fi => (compG (T := T) c (demote (slotsOf c (.Name x p)) 0 ks) 20 tg).bind fun g => (compSs r c n (demote (slotsOf c (.Name x p)) 0 ks) b).map fun f =>
        ⟨sFor fi.1 g.1.2 f.1, fun X F ok => evS_for ok.own ok.calm (dem_demote _ ks 0) (fi.2 X F ok) (g.2.1 X F ok) g.2.2.1 g.2.2.2 (f.2 X F ok) (dn_iter X.env)⟩
  | n + 1, ks, .For tg iter b [] pos =>
    if h : plainIter iter = true then
      (r.i c (demote (slotsOf c iter) 0 ks) tg iter).bind fun fi => (compG (T := T) c (demote (slotsOf c iter) 0 ks) 20 tg).bind fun g => (compSs r c n (demote (slotsOf c iter) 0 ks) b).map fun f =>
        ⟨sFor fi.1 g.1.2 f.1, fun X F ok => evS_for ok.own ok.calm (dem_demote _ ks 0) (fi.2 X F ok) (g.2.1 X F ok) g.2.2.1 g.2.2.2 (f.2 X F ok) (plainIter_ok h X.env)⟩
    else none
  | n + 1, ks, st => compSimple r c ks st
noncomputable def compSs {T : Tab} (r : Rec T) (c : SC) : Nat → (ks : Ks) → (sts : List Stmt) → CSs T c ks sts
  | 0, _, _ => none
  | n + 1, ks, [] => some ⟨sNil, fun X F ok => evSs_nil⟩
  | n + 1, ks, [st] => (compSt r c n ks st).bind fun f => (compSs r c n ks []).map fun g => ⟨sSeq f.1 g.1, fun X F ok => evSs_cons (f.2 X F ok) (g.2 X F ok)⟩
  | n + 1, ks, st :: st2 :: sts => if nestP st st2 = true then (compSs r c n ks sts).bind fun g => compNest r c ks st st2 sts g
    else (compSt r c n ks st).bind fun f => (compSs r c n ks (st2 :: sts)).map fun g => ⟨sSeq f.1 g.1, fun X F ok => evSs_cons (f.2 X F ok) (g.2 X F ok)⟩
end
/-- a def's body -/
noncomputable def compB (T : Tab) (N : List Str) (ks : Ks) (nw : Bool) (sc : Scope) (body : List Stmt) : CSs T ⟨N, sc, true, [], nw⟩ ks body := compSs (comp T 40) ⟨N, sc, true, [], nw⟩ 60 ks body
end RE
/-! RE20: all defs of a text at once; the law's end. -/
namespace RE
open PySem PySem.Spec PyProof.Rows L2

/-- a def of the text with its function of trees -/
structure DRow (Tb : Tab) where
  x : Str
  params : Arguments
  body : List Stmt
  sc : Scope
  N : List Str
  ps : List Str
  d : DefS
  S : FnScope N ps sc
  np : d.np = ps.length
  nn : d.nn = N.length
  par : okPar d.ks d.np = true
  len : (d.ks.take d.np).length = d.np
  bnd : ∀ (kV doc pm : Value) (an : Option Addr) (cdv ct : Value) (us : List Value), us.length = ps.length → bindArgs (PySem.W.fnOf x x params body sc .none kV doc pm an cdv ct) ⟨us, []⟩ = pure (ps.zip us)
  cmp : (compB Tb N d.ks d.nw sc body).map Subtype.val = some d.body
variable {Tb : Tab}
def DT (rows : List (DRow Tb)) (x : Str) : Option DefS := (rows.find? fun r => decide (r.x = x)).map (·.d)
def fnsOf (rows : List (DRow Tb)) : List (Str × Sig) := rows.map fun r => (r.x, ⟨r.d.ks.take r.d.np, r.d.nw⟩)
theorem fns_find {rows : List (DRow Tb)} {x : Str} {pk : Sig} (h : (fnsOf rows).lookup x = some pk) : ∃ r ∈ rows, r.x = x ∧ pk = ⟨r.d.ks.take r.d.np, r.d.nw⟩ ∧ DT rows x = some r.d := by
  unfold fnsOf at h
  unfold DT
  induction rows with
  | nil => cases h
  | cons r rows ih =>
    rw [List.map_cons, List.lookup_cons] at h
    by_cases e : r.x = x
    · subst e
      simp only [beq_self_eq_true] at h
      cases h
      exact ⟨r, List.mem_cons_self, rfl, rfl, by rw [List.find?_cons_of_pos (by simp)]; rfl⟩
    · have e2 : (x == r.x) = false := beq_false_of_ne fun z => e z.symm
      simp only [e2] at h
      obtain ⟨q, hq, h1, h2, h3⟩ := ih h
      exact ⟨q, List.mem_cons_of_mem _ hq, h1, h2, by rw [List.find?_cons_of_neg (by simpa using e)]; exact h3⟩
theorem comp_ok {T : Tab} {N : List Str} {ks : Ks} {nw : Bool} {sc : Scope} {body : List Stmt} {b : SS} (h : (compB T N ks nw sc body).map Subtype.val = some b) {X : Cx} {F : Fn} (ok : XOk T ⟨N, sc, true, [], nw⟩ X F) : EvSs X ks F body b := by
  obtain ⟨f, _, rfl⟩ := Option.map_eq_some_iff.mp h
  exact f.2 X F ok
theorem all_ok {P : Program} {w : World} {K : PySem.W.Frag} {mg : Str → Option Value} {base : Heap} {rows : List (DRow Tb)} (hf : Tb.fns = fnsOf rows)
    (hd : ∀ r ∈ rows, ∃ f fd, FunD K r.x r.x r.params r.body r.sc [] [] f fd ∧ mg r.x = some (.ref f)) (hg : ∀ x d, Tb.glb.lookup x = some d → ∃ v u, constV d = some v ∧ mg x = some u ∧ RelV v u) (hb : ∀ x, x ∈ Tb.blt → mg x = none) :
    ∀ n x pk, Tb.fns.lookup x = some pk → ∃ f fd ps, FnOk P w K mg base CX0 n f fd ps (spF mg pk (lvl (DT rows) n) x) ∧ mg x = some (.ref f) ∧ PySem.W.keepIn K (.ref f) = true ∧ Binds K fd ps [] := by
  intro n
  induction n with
  | zero =>
    intro x pk e
    rw [hf] at e
    obtain ⟨r, hr, rfl, rfl, hx⟩ := fns_find e
    obtain ⟨f, fd, F, hm⟩ := hd r hr
    exact ⟨f, fd, r.ps, fnOk_none fun _ => rfl, hm, F.kp, F.bindsN r.bnd⟩
  | succ n ih =>
    intro x pk e
    rw [hf] at e
    obtain ⟨r, hr, rfl, rfl, hx⟩ := fns_find e
    obtain ⟨f, fd, F, hm⟩ := hd r hr
    refine ⟨f, fd, r.ps, fnOk_succ hx F r.S r.np r.nn r.par r.len fun cdv A outer s H E hroom => ?_, hm, F.kp, F.bindsN r.bnd⟩
    refine comp_ok r.cmp ?_
    refine ⟨rfl, r.S.nd, rfl, rfl, PassesOwn.never, ?_, r.S.kind, fun _ _ => .inl rfl, fun g pk e2 => ?_, hg, hb⟩
    · have := hroom.un
      show (A.deeper _).units + 128 < cLine
      omega
    · obtain ⟨f2, fd2, ps2, h1, h2, h3, h4⟩ := ih g pk e2
      exact ⟨f2, fd2, ps2, n, h1, hroom, h2, h3, h4⟩

theorem glb_all {l : List (Str × D)} {mg : Str → Option Value} (h : ∀ p ∈ l, ∃ v u, constV p.2 = some v ∧ mg p.1 = some u ∧ RelV v u) : ∀ x d, l.lookup x = some d → ∃ v u, constV d = some v ∧ mg x = some u ∧ RelV v u := fun x d e => h (x, d) (PySem.mem_of_lookup e)
theorem law_fn {P : Program} {w : World} {K : PySem.W.Frag} {mg : Str → Option Value} {base : Heap} {rows : List (DRow Tb)} {r : DRow Tb} {f : Addr} {fd : FuncData} {n : Nat} {pk : Sig} {ps : List Str} (hf : Tb.fns = fnsOf rows)
    (hd : ∀ r ∈ rows, ∃ f fd, FunD K r.x r.x r.params r.body r.sc [] [] f fd ∧ mg r.x = some (.ref f)) (hg : ∀ x d, Tb.glb.lookup x = some d → ∃ v u, constV d = some v ∧ mg x = some u ∧ RelV v u) (hb : ∀ x, x ∈ Tb.blt → mg x = none)
    (hl : Tb.fns.lookup r.x = some pk ∧ DT rows r.x = some r.d ∧ pk = ⟨r.d.ks.take r.d.np, r.d.nw⟩ ∧ ps = r.ps) (F : FunD K r.x r.x r.params r.body r.sc [] [] f fd) :
    FnOk P w K mg base CX0 n f fd ps (spF mg pk (lvl (DT rows) n) r.x) := by
  obtain ⟨h1, h2, rfl, rfl⟩ := hl
  cases n with
  | zero => exact fnOk_none fun _ => rfl
  | succ n =>
    refine fnOk_succ h2 F r.S r.np r.nn r.par r.len fun cdv A outer s H E hroom => ?_
    refine comp_ok r.cmp ?_
    refine ⟨rfl, r.S.nd, rfl, rfl, PassesOwn.never, ?_, r.S.kind, fun _ _ => .inl rfl, fun g pk e2 => ?_, hg, hb⟩
    · have := hroom.un
      show (A.deeper _).units + 128 < cLine
      omega
    · obtain ⟨f2, fd2, ps2, h1, h2, h3, h4⟩ := all_ok (P := P) (w := w) (base := base) hf hd hg hb n g pk e2
      exact ⟨f2, fd2, ps2, n, h1, hroom, h2, h3, h4⟩

/-! ### only the defs and their code are taken as known -/
def passO (o : Obj) : Bool := match o.data with
  | .func _ => true
  | .fields _ => true
  | _ => false
open Classical in
noncomputable def filt (K : PySem.W.Frag) : PySem.W.Frag := K.filter fun q => decide (passO q.2 = true ∧ K.lookup q.1 = some q.2)
theorem mem_look {l : List (Addr × Obj)} {a : Addr} {o : Obj} (h : l.lookup a = some o) : (a, o) ∈ l := by
  induction l with
  | nil => cases h
  | cons q l ih =>
    obtain ⟨b, x⟩ := q
    rw [List.lookup_cons] at h
    cases hb : a == b with
    | true =>
      rw [hb] at h
      cases h
      have : a = b := by simpa using hb
      rw [this]
      exact List.mem_cons_self
    | false =>
      rw [hb] at h
      exact List.mem_cons_of_mem _ (ih h)
open Classical in
theorem filt_some {K : PySem.W.Frag} {a : Addr} {o : Obj} (h : (filt K).lookup a = some o) : passO o = true ∧ K.lookup a = some o := by
  have m := mem_look h
  unfold filt at m
  have := (List.mem_filter.mp m).2
  exact of_decide_eq_true this
open Classical in
theorem filt_of {K : PySem.W.Frag} {a : Addr} {o : Obj} (h : K.lookup a = some o) (p : passO o = true) : (filt K).lookup a = some o := by
  have m : (a, o) ∈ filt K := List.mem_filter.mpr ⟨mem_look h, decide_eq_true ⟨p, h⟩⟩
  cases e : (filt K).lookup a with
  | none =>
    exfalso
    have : ∀ l : List (Addr × Obj), (a, o) ∈ l → l.lookup a ≠ none := by
      intro l
      induction l with
      | nil => intro z; cases z
      | cons q l ih =>
        intro z
        obtain ⟨b, x⟩ := q
        rw [List.lookup_cons]
        cases hb : a == b with
        | true => intro y; cases y
        | false =>
          rcases List.mem_cons.mp z with y | y
          · cases y; simp at hb
          · exact ih y
    exact this _ m e
  | some o' =>
    have := (filt_some e).2
    rw [h] at this
    rw [this]
theorem filt_in {K : PySem.W.Frag} {h : Heap} (X : K.In h) : (filt K).In h := fun a o e => X a o (filt_some e).2
theorem FunD.filt {K : PySem.W.Frag} {x q : Str} {params : Arguments} {body : List Stmt} {sc : Scope} {f : Addr} {fd : FuncData} (F : FunD K x q params body sc [] [] f fd) : FunD (filt K) x q params body sc [] [] f fd := by
  obtain ⟨⟨oc, od, dV, kV, doc, pm, an, cdv, ct, osl, rfl, lk, hcd, hD, hK⟩, kp⟩ := F
  have lk' := filt_of lk rfl
  refine ⟨⟨oc, od, dV, kV, doc, pm, an, cdv, ct, osl, rfl, lk', ?_, ?_, .inl rfl⟩, ?_⟩
  · unfold PySem.W.codeIn at hcd ⊢
    cases cdv with
    | ref c =>
      simp only at hcd ⊢
      cases e : K.lookup c with
      | none => rw [e] at hcd; cases hcd
      | some o =>
        rw [e] at hcd
        obtain ⟨cls, dict, data, slots⟩ := o
        cases data <;> simp only at hcd <;> first | (cases hcd; done) | skip
        rw [filt_of e rfl]
        exact hcd
    | _ => cases hcd
  · rcases hD with ⟨h1, h2⟩ | ⟨h1, _⟩
    · exact .inl ⟨h1, h2⟩
    · exact absurd rfl h1
  · unfold PySem.W.keepIn
    simp only
    rw [lk']
theorem scr_rep {K : PySem.W.Frag} {H : Hp} {a : Addr} {ns : List Int} (ho : Only H) (hs : SqL (filt K) H a (ns.map V.int)) : Rep (fun _ => True) H (.scr ns) (.ref a) := by
  simp only [Rep]
  rcases hs with (h | ⟨o, h⟩) | ⟨o, its, n, h1, _, _, h2, _⟩
  · rcases ho a with z | ⟨ob, xs, z⟩ <;> (rw [h] at z; cases z)
  · exact ⟨a, o, rfl, h⟩
  · have := (filt_some h1).1
    unfold passO at this
    rw [h2] at this
    cases this
/-- the law's promise, at the end -/
theorem law_sp {K : PySem.W.Frag} {mg : Str → Option Value} {F : Fn} {H : Hp} {a : Addr} {ns : List Int} {f : Str} {E : XK} (ho : Only H) (hs : SqL (filt K) H a (ns.map V.int)) (h : F f [.scr ns] = some (.bl true)) : spF mg ⟨[.F], false⟩ F f [.ref a] H (fun v _ => v = .bl true) E :=
  ⟨fun _ => True, [.scr ns], .bl true, fun _ _ => trivial, ⟨.ref a, [], rfl, scr_rep ho hs, rfl⟩, rfl, h, fun v H' s r _ => by simpa only [Rep] using r⟩
/-- a def's end -/
def fin (nw : Bool) : Res → Option D
  | .rt b v => if (nw && !b) = true then none else some v
  | .nx _ => some .non
end RE
namespace L
open PySem PySem.Spec PyProof.Rows L2 RE
abbrev rw0 : PySem.W.OpenLaw := PySem.Challenge.rw_rigeyes_k11_flashes_known
def top (i : Nat) : Stmt := rw0.prog.main.body.getD i (.Pass ⟨0, 0, 0, 0⟩)
def tab : Tab := ⟨[("is_number", ⟨[.F, .F, .F], false⟩), ("is_name", ⟨[.F], false⟩), ("rises", ⟨[.F], false⟩), ("is_flash", ⟨[.F], false⟩), ("are_flashes", ⟨[.F], false⟩), ("_law_cell", ⟨[.F, .F], false⟩), ("_law_draws", ⟨[.F, .F, .F, .F], false⟩), ("_law_number", ⟨[.F, .F, .F], false⟩), ("_law_truly", ⟨[.F, .F], false⟩), ("_law_places", ⟨[.F], false⟩), ("_law_other", ⟨[.F, .F], false⟩), ("_law_shifted", ⟨[.B, .F, .F], true⟩), ("_law_put", ⟨[.F, .F, .F], false⟩), ("_law_bent", ⟨[.F, .F], false⟩), ("_law_thing", ⟨[.F, .F], false⟩), ("_law_flashes", ⟨[.F, .F], false⟩), ("_law_is_name", ⟨[.F], false⟩), ("_law_are_flashes", ⟨[.F], false⟩), ("law", ⟨[.F], false⟩)], [("LETTERS", .str "abcdefghijklmnopqrstuvwxyz"), ("CLOCK", .int 1000000), ("FLASHES", .int 24)], ["isinstance", "int", "bool", "str", "len", "all", "zip", "tuple", "range", "list", "enumerate", "sorted", "set"], [(["thing", "row", "pairs"], "pairs")], []⟩
noncomputable def b_is_number : SS := sSeq (sRet (cAnd (cU (isiD ["int"]) (cV 0)) (cAnd (cNot (cU (isiD ["bool"]) (cV 0))) (cCh leD leD (cV 1) (cV 0) (cV 2))))) (sNil)
noncomputable def r_is_number : DRow tab where
  x := "is_number"
  params := defArgs (top 4)
  body := defBody (top 4)
  sc := defScope (top 4)
  N := ["thing", "least", "most"]
  ps := ["thing", "least", "most"]
  d := ⟨3, 3, [.F, .F, .F], false, b_is_number⟩
  S := ⟨by kernel_rfl, by kernel_rfl, by kernel_rfl, by decide +kernel, rfl, by decide +kernel, by decide +kernel⟩
  np := rfl
  nn := rfl
  par := rfl
  len := rfl
  bnd := fun _ _ _ _ _ _ us hl => match us, hl with | [_, _, _], _ => rfl
  cmp := by kernel_rfl
noncomputable def b_is_name : SS := sSeq (sRet (cAnd (cU (isiD ["str"]) (cV 0)) (cAnd (cCh leD leD (cC (.int 1)) (cCall (op1 lenD) (cCons (cV 0) (cNil))) (cC (.int 8))) (cCall (op1 allD) (cCons (cLc [1] (cWalk (cV 0)) (gN 1) (cTrue) (cB inD (cV 1) (cC (.str "abcdefghijklmnopqrstuvwxyz")))) (cNil)))))) (sNil)
noncomputable def r_is_name : DRow tab where
  x := "is_name"
  params := defArgs (top 5)
  body := defBody (top 5)
  sc := defScope (top 5)
  N := ["thing", "sign"]
  ps := ["thing"]
  d := ⟨1, 2, [.F, .F], false, b_is_name⟩
  S := ⟨by kernel_rfl, by kernel_rfl, by kernel_rfl, by decide +kernel, rfl, by decide +kernel, by decide +kernel⟩
  np := rfl
  nn := rfl
  par := rfl
  len := rfl
  bnd := fun _ _ _ _ _ _ us hl => match us, hl with | [_], _ => rfl
  cmp := by kernel_rfl
noncomputable def b_rises : SS := sSeq (sRet (cCall (op1 allD) (cCons (cLc [1, 2] (cZip (cV 0) (cSl (cV 0) (cPart (cC (.int 1))) (cNone))) (gT (gsCons (gN 1) (gsCons (gN 2) (gsNil)))) (cTrue) (cB ltD (cV 1) (cV 2))) (cNil)))) (sNil)
noncomputable def r_rises : DRow tab where
  x := "rises"
  params := defArgs (top 6)
  body := defBody (top 6)
  sc := defScope (top 6)
  N := ["things", "one", "other"]
  ps := ["things"]
  d := ⟨1, 3, [.F, .F, .F], false, b_rises⟩
  S := ⟨by kernel_rfl, by kernel_rfl, by kernel_rfl, by decide +kernel, rfl, by decide +kernel, by decide +kernel⟩
  np := rfl
  nn := rfl
  par := rfl
  len := rfl
  bnd := fun _ _ _ _ _ _ us hl => match us, hl with | [_], _ => rfl
  cmp := by kernel_rfl
noncomputable def b_is_flash : SS := sSeq (sIf (cOrT (cNotT (cTr (cU (isiD ["tuple"]) (cV 0)))) (cOrT (cBT neD (cCall (op1 lenD) (cCons (cV 0) (cNil))) (cC (.int 4))) (cOrT (cNotT (cTr (cFn "is_name" (cCons (cIx (cV 0) (cC (.int 0))) (cNil))))) (cNotT (cTr (cFn "is_name" (cCons (cIx (cV 0) (cC (.int 1))) (cNil)))))))) (sSeq (sRet (cC (.bl false))) (sNil)) (sNil)) (sSeq (sRet (cAnd (cFn "is_number" (cCons (cIx (cV 0) (cC (.int 2))) (cCons (cC (.int 0)) (cCons (cC (.int 1000000)) (cNil))))) (cFn "is_number" (cCons (cIx (cV 0) (cC (.int 3))) (cCons (cIx (cV 0) (cC (.int 2))) (cCons (cC (.int 1000000)) (cNil))))))) (sNil))
noncomputable def r_is_flash : DRow tab where
  x := "is_flash"
  params := defArgs (top 8)
  body := defBody (top 8)
  sc := defScope (top 8)
  N := ["thing"]
  ps := ["thing"]
  d := ⟨1, 1, [.F], false, b_is_flash⟩
  S := ⟨by kernel_rfl, by kernel_rfl, by kernel_rfl, by decide +kernel, rfl, by decide +kernel, by decide +kernel⟩
  np := rfl
  nn := rfl
  par := rfl
  len := rfl
  bnd := fun _ _ _ _ _ _ us hl => match us, hl with | [_], _ => rfl
  cmp := by kernel_rfl
noncomputable def b_are_flashes : SS := sSeq (sIf (cOrT (cNotT (cTr (cU (isiD ["tuple"]) (cV 0)))) (cOrT (cBT gtD (cCall (op1 lenD) (cCons (cV 0) (cNil))) (cC (.int 24))) (cNotT (cTr (cCall (op1 allD) (cCons (cLc [1] (cWalk (cV 0)) (gN 1) (cTrue) (cFn "is_flash" (cCons (cV 1) (cNil)))) (cNil))))))) (sSeq (sRet (cC (.bl false))) (sNil)) (sNil)) (sSeq (sRet (cFn "rises" (cCons (cLc [1] (cWalk (cV 0)) (gN 1) (cTrue) (cSl (cV 1) (cNone) (cPart (cC (.int 2))))) (cNil)))) (sNil))
noncomputable def r_are_flashes : DRow tab where
  x := "are_flashes"
  params := defArgs (top 9)
  body := defBody (top 9)
  sc := defScope (top 9)
  N := ["thing", "row"]
  ps := ["thing"]
  d := ⟨1, 2, [.F, .F], false, b_are_flashes⟩
  S := ⟨by kernel_rfl, by kernel_rfl, by kernel_rfl, by decide +kernel, rfl, by decide +kernel, by decide +kernel⟩
  np := rfl
  nn := rfl
  par := rfl
  len := rfl
  bnd := fun _ _ _ _ _ _ us hl => match us, hl with | [_], _ => rfl
  cmp := by kernel_rfl
noncomputable def b__law_cell : SS := sSeq (sIf (cBT ltD (cV 1) (cCall (op1 lenD) (cCons (cV 0) (cNil)))) (sSeq (sRet (cIx (cV 0) (cV 1))) (sNil)) (sNil)) (sSeq (sIf (cBT eqD (cCall (op1 lenD) (cCons (cV 0) (cNil))) (cC (.int 0))) (sSeq (sRet (cB addD (cB mulD (cC (.int 7919)) (cV 1)) (cC (.int 101)))) (sNil)) (sNil)) (sSeq (sRet (cB addD (cB modD (cIx (cV 0) (cB modD (cV 1) (cCall (op1 lenD) (cCons (cV 0) (cNil))))) (cC (.int 1000003))) (cB mulD (cC (.int 7919)) (cV 1)))) (sNil)))
noncomputable def r__law_cell : DRow tab where
  x := "_law_cell"
  params := defArgs (top 11)
  body := defBody (top 11)
  sc := defScope (top 11)
  N := ["script", "k"]
  ps := ["script", "k"]
  d := ⟨2, 2, [.F, .F], false, b__law_cell⟩
  S := ⟨by kernel_rfl, by kernel_rfl, by kernel_rfl, by decide +kernel, rfl, by decide +kernel, by decide +kernel⟩
  np := rfl
  nn := rfl
  par := rfl
  len := rfl
  bnd := fun _ _ _ _ _ _ us hl => match us, hl with | [_, _], _ => rfl
  cmp := by kernel_rfl
noncomputable def b__law_draws : SS := sSeq (sAsg (cTup (cCons (cC (.int 2147483647)) (cCons (cC (.int 2147483629)) (cCons (cC (.int 2147483587)) (cCons (cC (.int 2147483579)) (cCons (cC (.int 2147483563)) (cCons (cC (.int 2147483549)) (cCons (cC (.int 2147483543)) (cCons (cC (.int 2147483497)) (cNil)))))))))) (gN 4)) (sSeq (sAsg (cFn "_law_cell" (cCons (cV 0) (cCons (cV 1) (cNil)))) (gN 5)) (sSeq (sAsg (cC (.int 0)) (gN 6)) (sSeq (sIf (cBT geD (cV 5) (cB powD (cC (.int 10)) (cC (.int 18)))) (sSeq (sAsg (cV 5) (gN 6)) (sNil)) (sNil)) (sSeq (sSetM 7 (cND (cLst (cNil)))) (sSeq (sFor (cRng1 (cV 2)) (gN 8) (sSeq (sAsg (cB mulD (cB modD (cV 5) (cIx (cV 4) (cB modD (cV 8) (cC (.int 8))))) (cB addD (cC (.int 48271)) (cB mulD (cB mulD (cC (.int 2)) (cV 8)) (cV 8)))) (gN 9)) (sSeq (sAsg (cB addD (cB addD (cV 9) (cB mulD (cB mulD (cC (.int 7919)) (cB addD (cV 8) (cC (.int 1)))) (cB addD (cV 8) (cC (.int 1))))) (cB mulD (cC (.int 104729)) (cV 1))) (gN 9)) (sSeq (sAsg (cB modD (cV 9) (cIx (cV 4) (cB modD (cB addD (cB mulD (cC (.int 3)) (cV 8)) (cV 1)) (cC (.int 8))))) (gN 9)) (sSeq (sAsg (cB modD (cB mulD (cB mulD (cV 9) (cV 9)) (cV 9)) (cIx (cV 4) (cB modD (cB addD (cV 8) (cC (.int 5))) (cC (.int 8))))) (gN 9)) (sSeq (sIf (cBT gtD (cV 6) (cC (.int 0))) (sSeq (sAsg (cV 6) (gN 9)) (sNil)) (sNil)) (sSeq (sApp 7 (cB modD (cV 9) (cV 3))) (sSeq (sAsg (cB fdivD (cV 6) (cV 3)) (gN 6)) (sNil))))))))) (sSeq (sRet (cV 7)) (sNil)))))))
noncomputable def r__law_draws : DRow tab where
  x := "_law_draws"
  params := defArgs (top 12)
  body := defBody (top 12)
  sc := defScope (top 12)
  N := ["script", "k", "many", "base", "primes", "cell", "rest", "row", "j", "mash"]
  ps := ["script", "k", "many", "base"]
  d := ⟨4, 10, [.F, .F, .F, .F, .F, .F, .F, .M, .F, .F], false, b__law_draws⟩
  S := ⟨by kernel_rfl, by kernel_rfl, by kernel_rfl, by decide +kernel, rfl, by decide +kernel, by decide +kernel⟩
  np := rfl
  nn := rfl
  par := rfl
  len := rfl
  bnd := fun _ _ _ _ _ _ us hl => match us, hl with | [_, _, _, _], _ => rfl
  cmp := by kernel_rfl
noncomputable def b__law_number : SS := sSeq (sRet (cAnd (cU (isiD ["int"]) (cV 0)) (cAnd (cNot (cU (isiD ["bool"]) (cV 0))) (cCh leD leD (cV 1) (cV 0) (cV 2))))) (sNil)
noncomputable def r__law_number : DRow tab where
  x := "_law_number"
  params := defArgs (top 13)
  body := defBody (top 13)
  sc := defScope (top 13)
  N := ["thing", "least", "most"]
  ps := ["thing", "least", "most"]
  d := ⟨3, 3, [.F, .F, .F], false, b__law_number⟩
  S := ⟨by kernel_rfl, by kernel_rfl, by kernel_rfl, by decide +kernel, rfl, by decide +kernel, by decide +kernel⟩
  np := rfl
  nn := rfl
  par := rfl
  len := rfl
  bnd := fun _ _ _ _ _ _ us hl => match us, hl with | [_, _, _], _ => rfl
  cmp := by kernel_rfl
noncomputable def b__law_truly : SS := sSeq (sRet (cAnd (cU (isiD ["bool"]) (cV 0)) (cB eqD (cV 0) (cV 1)))) (sNil)
noncomputable def r__law_truly : DRow tab where
  x := "_law_truly"
  params := defArgs (top 14)
  body := defBody (top 14)
  sc := defScope (top 14)
  N := ["found", "due"]
  ps := ["found", "due"]
  d := ⟨2, 2, [.F, .F], false, b__law_truly⟩
  S := ⟨by kernel_rfl, by kernel_rfl, by kernel_rfl, by decide +kernel, rfl, by decide +kernel, by decide +kernel⟩
  np := rfl
  nn := rfl
  par := rfl
  len := rfl
  bnd := fun _ _ _ _ _ _ us hl => match us, hl with | [_, _], _ => rfl
  cmp := by kernel_rfl
noncomputable def b__law_places : SS := sSeq (sAsg (cLst (cCons (cTup (cNil)) (cNil))) (gN 1)) (sSeq (sIf (cTr (cU (isiD ["list", "tuple"]) (cV 0))) (sSeq (sFor (cEnum (cV 0)) (gT (gsCons (gN 2) (gsCons (gN 3) (gsNil)))) (sSeq (sAsg (cB addD (cV 1) (cLc [4] (cWalk (cFn "_law_places" (cCons (cV 3) (cNil)))) (gN 4) (cTrue) (cB addD (cTup (cCons (cV 2) (cNil))) (cV 4)))) (gN 1)) (sNil))) (sNil)) (sNil)) (sSeq (sRet (cV 1)) (sNil)))
noncomputable def r__law_places : DRow tab where
  x := "_law_places"
  params := defArgs (top 15)
  body := defBody (top 15)
  sc := defScope (top 15)
  N := ["thing", "found", "at", "part", "path"]
  ps := ["thing"]
  d := ⟨1, 5, [.F, .F, .F, .F, .F], false, b__law_places⟩
  S := ⟨by kernel_rfl, by kernel_rfl, by kernel_rfl, by decide +kernel, rfl, by decide +kernel, by decide +kernel⟩
  np := rfl
  nn := rfl
  par := rfl
  len := rfl
  bnd := fun _ _ _ _ _ _ us hl => match us, hl with | [_], _ => rfl
  cmp := by kernel_rfl
noncomputable def b__law_other : SS := sSeq (sAsg (cLst (cCons (cC (.non)) (cCons (cC (.bl true)) (cCons (cC (.bl false)) (cCons (cC (.int 7)) (cCons (cB subD (cC (.int 0)) (cC (.int 1))) (cCons (cB powD (cC (.int 10)) (cC (.int 39))) (cCons (cC (.str "0")) (cCons (cC (.str "")) (cCons (cTup (cNil)) (cCons (cLst (cNil)) (cCons (cTup (cCons (cV 0) (cNil))) (cCons (cLst (cCons (cV 0) (cNil))) (cCons (cTup (cCons (cC (.int 0)) (cNil))) (cCons (cTup (cCons (cC (.int 1)) (cCons (cC (.int 0)) (cNil)))) (cCons (cC (.int 1)) (cCons (cC (.int 0)) (cNil)))))))))))))))))) (gN 2)) (sSeq (sIf (cAndT (cTr (cU (isiD ["int"]) (cV 0))) (cNotT (cTr (cU (isiD ["bool"]) (cV 0))))) (sSeq (sAsg (cB addD (cLst (cCons (cB addD (cV 0) (cC (.int 1))) (cCons (cB subD (cV 0) (cC (.int 1))) (cCons (cCall (op1 bool1D) (cCons (cV 0) (cNil))) (cCons (cB addD (cV 0) (cC (.int 1))) (cCons (cB subD (cV 0) (cC (.int 1))) (cCons (cCall (op1 bool1D) (cCons (cV 0) (cNil))) (cNil)))))))) (cV 2)) (gN 2)) (sNil)) (sNil)) (sSeq (sIf (cTr (cU (isiD ["list", "tuple"]) (cV 0))) (sSeq (sAsg (cB addD (cLst (cCons (cCall (op1 listDD) (cCons (cV 0) (cNil))) (cCons (cCall (op1 tupleD) (cCons (cV 0) (cNil))) (cCons (cCall (op1 tupleD) (cCons (cU revD (cV 0)) (cNil))) (cCons (cCall (op1 listDD) (cCons (cV 0) (cNil))) (cNil)))))) (cV 2)) (gN 2)) (sNil)) (sNil)) (sSeq (sRet (cIx (cV 2) (cB modD (cIx (cV 1) (cC (.int 1))) (cCall (op1 lenD) (cCons (cV 2) (cNil)))))) (sNil))))
noncomputable def r__law_other : DRow tab where
  x := "_law_other"
  params := defArgs (top 16)
  body := defBody (top 16)
  sc := defScope (top 16)
  N := ["thing", "draws", "some"]
  ps := ["thing", "draws"]
  d := ⟨2, 3, [.F, .F, .F], false, b__law_other⟩
  S := ⟨by kernel_rfl, by kernel_rfl, by kernel_rfl, by decide +kernel, rfl, by decide +kernel, by decide +kernel⟩
  np := rfl
  nn := rfl
  par := rfl
  len := rfl
  bnd := fun _ _ _ _ _ _ us hl => match us, hl with | [_, _], _ => rfl
  cmp := by kernel_rfl
noncomputable def b__law_shifted : SS := sSeq (sAsg (cB modD (cIx (cV 2) (cC (.int 2))) (cCall (op1 lenD) (cCons (cV 0) (cNil)))) (gN 3)) (sSeq (sIf (cBT eqD (cB modD (cIx (cV 2) (cC (.int 0))) (cC (.int 3))) (cC (.int 0))) (sSeq (sRetT (cB addD (cSl (cV 0) (cNone) (cPart (cV 1))) (cSl (cV 0) (cPart (cB addD (cV 1) (cC (.int 1)))) (cNone)))) (sNil)) (sNil)) (sSeq (sIf (cBT eqD (cB modD (cIx (cV 2) (cC (.int 0))) (cC (.int 3))) (cC (.int 1))) (sSeq (sRetT (cB addD (cB addD (cSl (cV 0) (cNone) (cPart (cV 3))) (cLst (cCons (cIx (cV 0) (cV 1)) (cNil)))) (cSl (cV 0) (cPart (cV 3)) (cNone)))) (sNil)) (sNil)) (sSeq (sAsg (cB addD (cSl (cV 0) (cNone) (cPart (cV 1))) (cSl (cV 0) (cPart (cB addD (cV 1) (cC (.int 1)))) (cNone))) (gN 4)) (sSeq (sRetT (cB addD (cB addD (cSl (cV 4) (cNone) (cPart (cV 3))) (cLst (cCons (cIx (cV 0) (cV 1)) (cNil)))) (cSl (cV 4) (cPart (cV 3)) (cNone)))) (sNil)))))
noncomputable def r__law_shifted : DRow tab where
  x := "_law_shifted"
  params := defArgs (top 17)
  body := defBody (top 17)
  sc := defScope (top 17)
  N := ["rows", "at", "draws", "other", "rest"]
  ps := ["rows", "at", "draws"]
  d := ⟨3, 5, [.B, .F, .F, .F, .F], true, b__law_shifted⟩
  S := ⟨by kernel_rfl, by kernel_rfl, by kernel_rfl, by decide +kernel, rfl, by decide +kernel, by decide +kernel⟩
  np := rfl
  nn := rfl
  par := rfl
  len := rfl
  bnd := fun _ _ _ _ _ _ us hl => match us, hl with | [_, _, _], _ => rfl
  cmp := by kernel_rfl
noncomputable def b__law_put : SS := sSeq (sIf (cBT eqD (cV 1) (cTup (cNil))) (sSeq (sRet (cFn "_law_other" (cCons (cV 0) (cCons (cV 2) (cNil))))) (sNil)) (sNil)) (sSeq (sSetM 3 (cND (cCall (op1 listDD) (cCons (cV 0) (cNil))))) (sSeq (sIf (cAndT (cBT eqD (cCall (op1 lenD) (cCons (cV 1) (cNil))) (cC (.int 1))) (cBT eqD (cB modD (cIx (cV 2) (cC (.int 3))) (cC (.int 2))) (cC (.int 0)))) (sSeq (sSetM 3 (cND (cFn "_law_shifted" (cCons (cV 3) (cCons (cIx (cV 1) (cC (.int 0))) (cCons (cV 2) (cNil))))))) (sNil)) (sSeq (sPut 3 (cIx (cV 1) (cC (.int 0))) (cFn "_law_put" (cCons (cIx (cV 3) (cIx (cV 1) (cC (.int 0)))) (cCons (cSl (cV 1) (cPart (cC (.int 1))) (cNone)) (cCons (cV 2) (cNil)))))) (sNil))) (sSeq (sRet (cIf (cTr (cU (isiD ["list"]) (cV 0))) (cV 3) (cCall (op1 tupleD) (cCons (cV 3) (cNil))))) (sNil))))
noncomputable def r__law_put : DRow tab where
  x := "_law_put"
  params := defArgs (top 18)
  body := defBody (top 18)
  sc := defScope (top 18)
  N := ["thing", "path", "draws", "rows"]
  ps := ["thing", "path", "draws"]
  d := ⟨3, 4, [.F, .F, .F, .M], false, b__law_put⟩
  S := ⟨by kernel_rfl, by kernel_rfl, by kernel_rfl, by decide +kernel, rfl, by decide +kernel, by decide +kernel⟩
  np := rfl
  nn := rfl
  par := rfl
  len := rfl
  bnd := fun _ _ _ _ _ _ us hl => match us, hl with | [_, _, _], _ => rfl
  cmp := by kernel_rfl
noncomputable def b__law_bent : SS := sSeq (sAsg (cFn "_law_places" (cCons (cV 0) (cNil))) (gN 2)) (sSeq (sRet (cFn "_law_put" (cCons (cV 0) (cCons (cIx (cV 2) (cB modD (cIx (cV 1) (cC (.int 4))) (cCall (op1 lenD) (cCons (cV 2) (cNil))))) (cCons (cV 1) (cNil)))))) (sNil))
noncomputable def r__law_bent : DRow tab where
  x := "_law_bent"
  params := defArgs (top 19)
  body := defBody (top 19)
  sc := defScope (top 19)
  N := ["thing", "draws", "places"]
  ps := ["thing", "draws"]
  d := ⟨2, 3, [.F, .F, .F], false, b__law_bent⟩
  S := ⟨by kernel_rfl, by kernel_rfl, by kernel_rfl, by decide +kernel, rfl, by decide +kernel, by decide +kernel⟩
  np := rfl
  nn := rfl
  par := rfl
  len := rfl
  bnd := fun _ _ _ _ _ _ us hl => match us, hl with | [_, _], _ => rfl
  cmp := by kernel_rfl
noncomputable def b__law_thing : SS := sSeq (sAsg (cB modD (cIx (cV 0) (cV 1)) (cC (.int 12))) (gN 2)) (sSeq (sAsg (cIx (cLst (cCons (cB subD (cB modD (cIx (cV 0) (cB addD (cV 1) (cC (.int 1)))) (cC (.int 12))) (cC (.int 2))) (cCons (cB subD (cC (.int 0)) (cB powD (cC (.int 10)) (cC (.int 39)))) (cCons (cB powD (cC (.int 10)) (cC (.int 39))) (cNil))))) (cB modD (cIx (cV 0) (cB addD (cV 1) (cC (.int 2)))) (cC (.int 3)))) (gN 3)) (sSeq (sIf (cOrT (cBT ltD (cV 2) (cC (.int 4))) (cBT gtD (cV 1) (cC (.int 3)))) (sSeq (sRet (cV 3)) (sNil)) (sNil)) (sSeq (sIf (cBT ltD (cV 2) (cC (.int 7))) (sSeq (sRet (cIx (cLst (cCons (cC (.bl true)) (cCons (cC (.bl false)) (cCons (cC (.non)) (cNil))))) (cB subD (cV 2) (cC (.int 4))))) (sNil)) (sNil)) (sSeq (sIf (cBT ltD (cV 2) (cC (.int 9))) (sSeq (sRet (cIx (cLst (cCons (cC (.str "")) (cCons (cC (.str "0")) (cCons (cC (.str "1-0")) (cCons (cC (.str "hall")) (cCons (cC (.str "3")) (cCons (cC (.str "none")) (cCons (cC (.str "1:")) (cCons (cC (.str "~")) (cNil)))))))))) (cB modD (cIx (cV 0) (cB addD (cV 1) (cC (.int 3)))) (cC (.int 8))))) (sNil)) (sNil)) (sSeq (sAsg (cLc [5] (cRng1 (cB modD (cIx (cV 0) (cB addD (cV 1) (cC (.int 4)))) (cC (.int 4)))) (gN 5) (cTrue) (cFn "_law_thing" (cCons (cB addD (cSl (cV 0) (cPart (cV 5)) (cNone)) (cSl (cV 0) (cNone) (cPart (cV 5)))) (cCons (cB addD (cV 1) (cC (.int 1))) (cNil))))) (gN 4)) (sSeq (sRet (cIf (cBT eqD (cV 2) (cC (.int 9))) (cV 4) (cCall (op1 tupleD) (cCons (cV 4) (cNil))))) (sNil)))))))
noncomputable def r__law_thing : DRow tab where
  x := "_law_thing"
  params := defArgs (top 20)
  body := defBody (top 20)
  sc := defScope (top 20)
  N := ["draws", "deep", "kind", "far", "some", "k"]
  ps := ["draws", "deep"]
  d := ⟨2, 6, [.F, .F, .F, .F, .F, .F], false, b__law_thing⟩
  S := ⟨by kernel_rfl, by kernel_rfl, by kernel_rfl, by decide +kernel, rfl, by decide +kernel, by decide +kernel⟩
  np := rfl
  nn := rfl
  par := rfl
  len := rfl
  bnd := fun _ _ _ _ _ _ us hl => match us, hl with | [_, _], _ => rfl
  cmp := by kernel_rfl
noncomputable def b__law_flashes : SS := sSeq (sPar [2, 3, 4] (cCons (cSl (cLst (cCons (cC (.str "ann")) (cCons (cC (.str "bo")) (cCons (cC (.str "cy")) (cCons (cC (.str "di")) (cCons (cC (.str "eve")) (cCons (cC (.str "fay")) (cNil)))))))) (cNone) (cPart (cB addD (cC (.int 1)) (cB modD (cIx (cV 0) (cC (.int 0))) (cC (.int 6)))))) (cCons (cND (cLst (cNil))) (cCons (cC (.dic false [])) (cNil))))) (sSeq (sFor (cEnum (cV 2)) (gT (gsCons (gN 5) (gsCons (gN 6) (gsNil)))) (sSeq (sPut 4 (cV 6) (cB subD (cB modD (cIx (cV 0) (cB addD (cC (.int 1)) (cV 5))) (cC (.int 199))) (cC (.int 99)))) (sNil))) (sSeq (sFor (cRng1 (cC (.int 36))) (gN 5) (sSeq (sPar [7, 6] (cCons (cIx (cC (.str "uvwxyz")) (cB fdivD (cV 5) (cC (.int 6)))) (cCons (cIx (cLst (cCons (cC (.str "ann")) (cCons (cC (.str "bo")) (cCons (cC (.str "cy")) (cCons (cC (.str "di")) (cCons (cC (.str "eve")) (cCons (cC (.str "fay")) (cNil)))))))) (cB modD (cV 5) (cC (.int 6)))) (cNil)))) (sSeq (sIf (cAndT (cBT inD (cV 6) (cV 2)) (cAndT (cBT ltD (cCall (op1 lenD) (cCons (cV 3) (cNil))) (cC (.int 24))) (cBT gtD (cB modD (cIx (cV 0) (cB addD (cC (.int 8)) (cV 5))) (cC (.int 5))) (cC (.int 1))))) (sSeq (sAsg (cB subD (cB addD (cC (.int 1000)) (cB modD (cIx (cV 0) (cB addD (cC (.int 50)) (cB fdivD (cV 5) (cC (.int 6))))) (cC (.int 5000)))) (cIx (cV 4) (cV 6))) (gN 8)) (sSeq (sAsg (cB modD (cB fdivD (cIx (cV 0) (cB addD (cC (.int 8)) (cV 5))) (cC (.int 5))) (cB addD (cV 1) (cC (.int 1)))) (gN 9)) (sSeq (sAsg (cB modD (cB fdivD (cIx (cV 0) (cB addD (cC (.int 8)) (cV 5))) (cC (.int 300))) (cB addD (cV 1) (cC (.int 1)))) (gN 10)) (sSeq (sApp 3 (cTup (cCons (cV 7) (cCons (cV 6) (cCons (cB subD (cV 8) (cV 9)) (cCons (cB addD (cV 8) (cV 10)) (cNil))))))) (sNil))))) (sNil)) (sNil)))) (sSeq (sRet (cTup (cCons (cCall (op1 tupleD) (cCons (cV 3) (cNil))) (cCons (cV 4) (cNil))))) (sNil))))
noncomputable def r__law_flashes : DRow tab where
  x := "_law_flashes"
  params := defArgs (top 21)
  body := defBody (top 21)
  sc := defScope (top 21)
  N := ["draws", "loose", "lookers", "rows", "ahead", "k", "looker", "flash", "moment", "early", "late"]
  ps := ["draws", "loose"]
  d := ⟨2, 11, [.F, .F, .F, .M, .M, .F, .F, .F, .F, .F, .F], false, b__law_flashes⟩
  S := ⟨by kernel_rfl, by kernel_rfl, by kernel_rfl, by decide +kernel, rfl, by decide +kernel, by decide +kernel⟩
  np := rfl
  nn := rfl
  par := rfl
  len := rfl
  bnd := fun _ _ _ _ _ _ us hl => match us, hl with | [_, _], _ => rfl
  cmp := by kernel_rfl
noncomputable def b__law_is_name : SS := sSeq (sIf (cOrT (cNotT (cTr (cU (isiD ["str"]) (cV 0)))) (cNotT (cChT leD leD (cC (.int 1)) (cCall (op1 lenD) (cCons (cV 0) (cNil))) (cC (.int 8))))) (sSeq (sRet (cC (.bl false))) (sNil)) (sNil)) (sSeq (sRet (cB eqD (cLc [1] (cWalk (cV 0)) (gN 1) (cBT notInD (cV 1) (cC (.str "abcdefghijklmnopqrstuvwxyz"))) (cV 1)) (cLst (cNil)))) (sNil))
noncomputable def r__law_is_name : DRow tab where
  x := "_law_is_name"
  params := defArgs (top 22)
  body := defBody (top 22)
  sc := defScope (top 22)
  N := ["thing", "sign"]
  ps := ["thing"]
  d := ⟨1, 2, [.F, .F], false, b__law_is_name⟩
  S := ⟨by kernel_rfl, by kernel_rfl, by kernel_rfl, by decide +kernel, rfl, by decide +kernel, by decide +kernel⟩
  np := rfl
  nn := rfl
  par := rfl
  len := rfl
  bnd := fun _ _ _ _ _ _ us hl => match us, hl with | [_], _ => rfl
  cmp := by kernel_rfl
noncomputable def b__law_are_flashes : SS := sSeq (sIf (cOrT (cNotT (cTr (cU (isiD ["tuple"]) (cV 0)))) (cBT gtD (cCall (op1 lenD) (cCons (cV 0) (cNil))) (cC (.int 24)))) (sSeq (sRet (cC (.bl false))) (sNil)) (sNil)) (sSeq (sFor (cWalk (cV 0)) (gN 1) (sSeq (sIf (cOrT (cNotT (cTr (cU (isiD ["tuple"]) (cV 1)))) (cOrT (cBT neD (cCall (op1 lenD) (cCons (cV 1) (cNil))) (cC (.int 4))) (cOrT (cNotT (cTr (cFn "_law_is_name" (cCons (cIx (cV 1) (cC (.int 0))) (cNil))))) (cNotT (cTr (cFn "_law_is_name" (cCons (cIx (cV 1) (cC (.int 1))) (cNil)))))))) (sSeq (sRet (cC (.bl false))) (sNil)) (sNil)) (sSeq (sIf (cOrT (cNotT (cTr (cFn "_law_number" (cCons (cIx (cV 1) (cC (.int 2))) (cCons (cC (.int 0)) (cCons (cB powD (cC (.int 10)) (cC (.int 6))) (cNil))))))) (cOrT (cNotT (cTr (cFn "_law_number" (cCons (cIx (cV 1) (cC (.int 3))) (cCons (cC (.int 0)) (cCons (cB powD (cC (.int 10)) (cC (.int 6))) (cNil))))))) (cBT gtD (cIx (cV 1) (cC (.int 2))) (cIx (cV 1) (cC (.int 3)))))) (sSeq (sRet (cC (.bl false))) (sNil)) (sNil)) (sNil)))) (sSeq (sAsg (cLc [1] (cWalk (cV 0)) (gN 1) (cTrue) (cSl (cV 1) (cNone) (cPart (cC (.int 2))))) (gN 2)) (sSeq (sRet (cB eqD (cV 2) (cU setSortT (cV 2)))) (sNil))))
noncomputable def r__law_are_flashes : DRow tab where
  x := "_law_are_flashes"
  params := defArgs (top 23)
  body := defBody (top 23)
  sc := defScope (top 23)
  N := ["thing", "row", "pairs"]
  ps := ["thing"]
  d := ⟨1, 3, [.F, .F, .F], false, b__law_are_flashes⟩
  S := ⟨by kernel_rfl, by kernel_rfl, by kernel_rfl, by decide +kernel, rfl, by decide +kernel, by decide +kernel⟩
  np := rfl
  nn := rfl
  par := rfl
  len := rfl
  bnd := fun _ _ _ _ _ _ us hl => match us, hl with | [_], _ => rfl
  cmp := by kernel_rfl
noncomputable def b_law : SS := sSeq (sAsg (cCall (op1 tupleD) (cCons (cLc [11] (cWalk (cC (.str "abcdefghijklmnopqrstuvwxy"))) (gN 11) (cTrue) (cTup (cCons (cB addD (cC (.str "f")) (cV 11)) (cCons (cC (.str "ann")) (cCons (cC (.int 1)) (cCons (cC (.int 2)) (cNil))))))) (cNil))) (gN 1)) (sSeq (sAsg (cLst (cCons (cTup (cNil)) (cCons (cV 1) (cCons (cSl (cV 1) (cNone) (cPart (cC (.int 24)))) (cCons (cTup (cCons (cTup (cCons (cC (.str "f")) (cCons (cC (.str "ann")) (cCons (cC (.int 1)) (cCons (cC (.int 2)) (cNil)))))) (cCons (cTup (cCons (cC (.str "f")) (cCons (cC (.str "ann")) (cCons (cC (.int 3)) (cCons (cC (.int 4)) (cNil)))))) (cNil)))) (cCons (cTup (cCons (cTup (cCons (cC (.str "f")) (cCons (cC (.str "ann")) (cCons (cC (.int 2)) (cCons (cC (.int 1)) (cNil)))))) (cNil))) (cCons (cTup (cCons (cTup (cCons (cC (.str "f")) (cCons (cC (.str "f")) (cCons (cC (.int 0)) (cCons (cC (.int 0)) (cNil)))))) (cNil))) (cNil)))))))) (gN 2)) (sSeq (sAsg (cB addD (cV 2) (cLst (cCons (cTup (cCons (cTup (cCons (cC (.str "f")) (cCons (cC (.str "ann")) (cCons (cB powD (cC (.int 10)) (cC (.int 6))) (cCons (cB powD (cC (.int 10)) (cC (.int 6))) (cNil)))))) (cNil))) (cCons (cTup (cCons (cTup (cCons (cC (.str "f")) (cCons (cC (.str "ann")) (cCons (cC (.int 5)) (cCons (cB addD (cB powD (cC (.int 10)) (cC (.int 6))) (cC (.int 1))) (cNil)))))) (cNil))) (cCons (cTup (cCons (cTup (cCons (cC (.str "f")) (cCons (cC (.str "ann")) (cCons (cB subD (cC (.int 0)) (cC (.int 1))) (cCons (cC (.int 1)) (cNil)))))) (cNil))) (cNil)))))) (gN 2)) (sSeq (sFor (cWalk (cTup (cCons (cC (.int 0)) (cCons (cC (.int 2)) (cCons (cC (.int 4)) (cNil)))))) (gN 3) (sSeq (sAsg (cFn "_law_draws" (cCons (cV 0) (cCons (cV 3) (cCons (cC (.int 60)) (cCons (cC (.int 27720)) (cNil)))))) (gN 4)) (sSeq (sAsg (cFn "_law_flashes" (cCons (cV 4) (cCons (cC (.int 9)) (cNil)))) (gT (gsCons (gN 5) (gsCons (gN 6) (gsNil))))) (sSeq (sAsg (cB addD (cV 2) (cLst (cCons (cV 5) (cCons (cCall (op1 listDD) (cCons (cV 5) (cNil))) (cCons (cU revD (cV 5)) (cCons (cB addD (cV 5) (cSl (cV 5) (cNone) (cPart (cC (.int 1))))) (cNil))))))) (gN 2)) (sSeq (sFor (cRng1 (cC (.int 12))) (gN 7) (sSeq (sAsg (cSl (cV 4) (cPart (cB mulD (cC (.int 4)) (cV 7))) (cPart (cB addD (cB mulD (cC (.int 4)) (cV 7)) (cC (.int 5))))) (gN 8)) (sSeq (sAsg (cFn "_law_bent" (cCons (cV 5) (cCons (cV 8) (cNil)))) (gN 9)) (sSeq (sAsg (cB addD (cV 2) (cLst (cCons (cV 9) (cCons (cFn "_law_bent" (cCons (cV 9) (cCons (cU revD (cV 8)) (cNil)))) (cCons (cFn "_law_thing" (cCons (cB addD (cSl (cV 4) (cPart (cV 7)) (cNone)) (cSl (cV 4) (cNone) (cPart (cV 7)))) (cCons (cC (.int 0)) (cNil)))) (cNil)))))) (gN 2)) (sNil))))) (sNil)))))) (sSeq (sFor (cWalk (cV 2)) (gN 10) (sSeq (sIf (cNotT (cTr (cFn "_law_truly" (cCons (cFn "are_flashes" (cCons (cV 10) (cNil))) (cCons (cFn "_law_are_flashes" (cCons (cV 10) (cNil))) (cNil)))))) (sSeq (sRet (cC (.bl false))) (sNil)) (sNil)) (sNil))) (sSeq (sRet (cC (.bl true))) (sNil))))))
noncomputable def r_law : DRow tab where
  x := "law"
  params := defArgs (top 24)
  body := defBody (top 24)
  sc := defScope (top 24)
  N := ["script", "many", "some", "at", "draws", "flashes", "ahead", "k", "row", "bent", "thing", "sign"]
  ps := ["script"]
  d := ⟨1, 12, [.F, .F, .F, .F, .F, .F, .F, .F, .F, .F, .F, .F], false, b_law⟩
  S := ⟨by kernel_rfl, by kernel_rfl, by kernel_rfl, by decide +kernel, rfl, by decide +kernel, by decide +kernel⟩
  np := rfl
  nn := rfl
  par := rfl
  len := rfl
  bnd := fun _ _ _ _ _ _ us hl => match us, hl with | [_], _ => rfl
  cmp := by kernel_rfl
noncomputable def rows : List (DRow tab) := [r_is_number, r_is_name, r_rises, r_is_flash, r_are_flashes, r__law_cell, r__law_draws, r__law_number, r__law_truly, r__law_places, r__law_other, r__law_shifted, r__law_put, r__law_bent, r__law_thing, r__law_flashes, r__law_is_name, r__law_are_flashes, r_law]
theorem fns_eq : tab.fns = fnsOf rows := rfl
def d_is_number : He.DefD := ⟨("is_number", none), "is_number", "is_number", defArgs (top 4), defBody (top 4), defScope (top 4), [], []⟩
def d_is_name : He.DefD := ⟨("is_name", none), "is_name", "is_name", defArgs (top 5), defBody (top 5), defScope (top 5), [], []⟩
def d_rises : He.DefD := ⟨("rises", none), "rises", "rises", defArgs (top 6), defBody (top 6), defScope (top 6), [], []⟩
def d_is_flash : He.DefD := ⟨("is_flash", none), "is_flash", "is_flash", defArgs (top 8), defBody (top 8), defScope (top 8), [], []⟩
def d_are_flashes : He.DefD := ⟨("are_flashes", none), "are_flashes", "are_flashes", defArgs (top 9), defBody (top 9), defScope (top 9), [], []⟩
def d__law_cell : He.DefD := ⟨("_law_cell", none), "_law_cell", "_law_cell", defArgs (top 11), defBody (top 11), defScope (top 11), [], []⟩
def d__law_draws : He.DefD := ⟨("_law_draws", none), "_law_draws", "_law_draws", defArgs (top 12), defBody (top 12), defScope (top 12), [], []⟩
def d__law_number : He.DefD := ⟨("_law_number", none), "_law_number", "_law_number", defArgs (top 13), defBody (top 13), defScope (top 13), [], []⟩
def d__law_truly : He.DefD := ⟨("_law_truly", none), "_law_truly", "_law_truly", defArgs (top 14), defBody (top 14), defScope (top 14), [], []⟩
def d__law_places : He.DefD := ⟨("_law_places", none), "_law_places", "_law_places", defArgs (top 15), defBody (top 15), defScope (top 15), [], []⟩
def d__law_other : He.DefD := ⟨("_law_other", none), "_law_other", "_law_other", defArgs (top 16), defBody (top 16), defScope (top 16), [], []⟩
def d__law_shifted : He.DefD := ⟨("_law_shifted", none), "_law_shifted", "_law_shifted", defArgs (top 17), defBody (top 17), defScope (top 17), [], []⟩
def d__law_put : He.DefD := ⟨("_law_put", none), "_law_put", "_law_put", defArgs (top 18), defBody (top 18), defScope (top 18), [], []⟩
def d__law_bent : He.DefD := ⟨("_law_bent", none), "_law_bent", "_law_bent", defArgs (top 19), defBody (top 19), defScope (top 19), [], []⟩
def d__law_thing : He.DefD := ⟨("_law_thing", none), "_law_thing", "_law_thing", defArgs (top 20), defBody (top 20), defScope (top 20), [], []⟩
def d__law_flashes : He.DefD := ⟨("_law_flashes", none), "_law_flashes", "_law_flashes", defArgs (top 21), defBody (top 21), defScope (top 21), [], []⟩
def d__law_is_name : He.DefD := ⟨("_law_is_name", none), "_law_is_name", "_law_is_name", defArgs (top 22), defBody (top 22), defScope (top 22), [], []⟩
def d__law_are_flashes : He.DefD := ⟨("_law_are_flashes", none), "_law_are_flashes", "_law_are_flashes", defArgs (top 23), defBody (top 23), defScope (top 23), [], []⟩
def d_law : He.DefD := ⟨("law", none), "law", "law", defArgs (top 24), defBody (top 24), defScope (top 24), [], []⟩
def dfn : List He.DefD := [d_is_number, d_is_name, d_rises, d_is_flash, d_are_flashes, d__law_cell, d__law_draws, d__law_number, d__law_truly, d__law_places, d__law_other, d__law_shifted, d__law_put, d__law_bent, d__law_thing, d__law_flashes, d__law_is_name, d__law_are_flashes, d_law]
def dfa : List He.Fa := (.glo "is_number" :: .glo "is_name" :: .glo "rises" :: .glo "is_flash" :: .glo "are_flashes" :: .glo "_law_cell" :: .glo "_law_draws" :: .glo "_law_number" :: .glo "_law_truly" :: .glo "_law_places" :: .glo "_law_other" :: .glo "_law_shifted" :: .glo "_law_put" :: .glo "_law_bent" :: .glo "_law_thing" :: .glo "_law_flashes" :: .glo "_law_is_name" :: .glo "_law_are_flashes" :: .glo "law" :: .str "LETTERS" "abcdefghijklmnopqrstuvwxyz" :: .int "CLOCK" 1000000 :: .int "FLASHES" 24 :: .free "isinstance" :: .free "int" :: .free "bool" :: .free "str" :: .free "len" :: .free "all" :: .free "zip" :: .free "tuple" :: .free "range" :: .free "list" :: .free "enumerate" :: .free "sorted" :: .free "set" :: [])
def loose0 : List PySem.Str := ["FLASHES", "CLOCK", "LETTERS", "is_number", "is_name", "rises", "is_flash", "are_flashes", "_law_cell", "_law_draws", "_law_number", "_law_truly", "_law_places", "_law_other", "_law_shifted", "_law_put", "_law_bent", "_law_thing", "_law_flashes", "_law_is_name", "_law_are_flashes"]
def loose : List PySem.Str := loose0
abbrev R0 : PySem.W.OpenRow := PySem.W.OpenLaw.row rw0
abbrev hk : PySem.W.Hook := He.hookD 4 dfa dfn
def ob (s : PySem.W.SharedT) : He.AlD := He.obsDG 4 dfa dfn (HandSHeadRun.getT s)
theorem ob_eq (s : PySem.W.SharedT) : ob s = hk.obs s.abs := He.obsDG_eq (HandSHeadRun.getT_eq s)
theorem run (w : World) : HandSHeadRun.RunEq R0 (PySem.W.view R0.prog [24]) hk ob 4000 loose w := by
  intro os
  kernel_rfl
theorem facts {P : Program} {w : World} {K : PySem.W.Frag} {h : Heap} {mg : Str → Option Value} {f : Addr} (X : K.In h) (G : h.Ns mainGlobals mg) (hfa : mg ("law" : Str) = some (.ref f)) (c : He.SaysD dfa dfn K) (n : Nat) :
    ∃ fd : FuncData, (∀ (s : Shared) (v : Value), BindsTo s fd ⟨[v], []⟩ [("script", v)]) ∧ ∀ base : Heap, (filt K).In base → base.Ns mainGlobals mg → FnOk P w (filt K) mg base CX0 n f fd ["script"] (spF mg ⟨[.F], false⟩ (lvl (DT rows) n) "law") := by
  have hd : ∀ r ∈ rows, ∃ f fd, FunD (filt K) r.x r.x r.params r.body r.sc [] [] f fd ∧ mg r.x = some (.ref f) := by
    intro r hr
    simp only [rows, List.mem_cons, List.not_mem_nil, or_false] at hr
    rcases hr with rfl | rfl | rfl | rfl | rfl | rfl | rfl | rfl | rfl | rfl | rfl | rfl | rfl | rfl | rfl | rfl | rfl | rfl | rfl
    · obtain ⟨fd, F⟩ := c.def_ 0 (d := d_is_number) rfl; exact ⟨_, fd, FunD.filt F, He.glo_ok X G (c.fact 0 (f := .glo "is_number") rfl)⟩
    · obtain ⟨fd, F⟩ := c.def_ 1 (d := d_is_name) rfl; exact ⟨_, fd, FunD.filt F, He.glo_ok X G (c.fact 1 (f := .glo "is_name") rfl)⟩
    · obtain ⟨fd, F⟩ := c.def_ 2 (d := d_rises) rfl; exact ⟨_, fd, FunD.filt F, He.glo_ok X G (c.fact 2 (f := .glo "rises") rfl)⟩
    · obtain ⟨fd, F⟩ := c.def_ 3 (d := d_is_flash) rfl; exact ⟨_, fd, FunD.filt F, He.glo_ok X G (c.fact 3 (f := .glo "is_flash") rfl)⟩
    · obtain ⟨fd, F⟩ := c.def_ 4 (d := d_are_flashes) rfl; exact ⟨_, fd, FunD.filt F, He.glo_ok X G (c.fact 4 (f := .glo "are_flashes") rfl)⟩
    · obtain ⟨fd, F⟩ := c.def_ 5 (d := d__law_cell) rfl; exact ⟨_, fd, FunD.filt F, He.glo_ok X G (c.fact 5 (f := .glo "_law_cell") rfl)⟩
    · obtain ⟨fd, F⟩ := c.def_ 6 (d := d__law_draws) rfl; exact ⟨_, fd, FunD.filt F, He.glo_ok X G (c.fact 6 (f := .glo "_law_draws") rfl)⟩
    · obtain ⟨fd, F⟩ := c.def_ 7 (d := d__law_number) rfl; exact ⟨_, fd, FunD.filt F, He.glo_ok X G (c.fact 7 (f := .glo "_law_number") rfl)⟩
    · obtain ⟨fd, F⟩ := c.def_ 8 (d := d__law_truly) rfl; exact ⟨_, fd, FunD.filt F, He.glo_ok X G (c.fact 8 (f := .glo "_law_truly") rfl)⟩
    · obtain ⟨fd, F⟩ := c.def_ 9 (d := d__law_places) rfl; exact ⟨_, fd, FunD.filt F, He.glo_ok X G (c.fact 9 (f := .glo "_law_places") rfl)⟩
    · obtain ⟨fd, F⟩ := c.def_ 10 (d := d__law_other) rfl; exact ⟨_, fd, FunD.filt F, He.glo_ok X G (c.fact 10 (f := .glo "_law_other") rfl)⟩
    · obtain ⟨fd, F⟩ := c.def_ 11 (d := d__law_shifted) rfl; exact ⟨_, fd, FunD.filt F, He.glo_ok X G (c.fact 11 (f := .glo "_law_shifted") rfl)⟩
    · obtain ⟨fd, F⟩ := c.def_ 12 (d := d__law_put) rfl; exact ⟨_, fd, FunD.filt F, He.glo_ok X G (c.fact 12 (f := .glo "_law_put") rfl)⟩
    · obtain ⟨fd, F⟩ := c.def_ 13 (d := d__law_bent) rfl; exact ⟨_, fd, FunD.filt F, He.glo_ok X G (c.fact 13 (f := .glo "_law_bent") rfl)⟩
    · obtain ⟨fd, F⟩ := c.def_ 14 (d := d__law_thing) rfl; exact ⟨_, fd, FunD.filt F, He.glo_ok X G (c.fact 14 (f := .glo "_law_thing") rfl)⟩
    · obtain ⟨fd, F⟩ := c.def_ 15 (d := d__law_flashes) rfl; exact ⟨_, fd, FunD.filt F, He.glo_ok X G (c.fact 15 (f := .glo "_law_flashes") rfl)⟩
    · obtain ⟨fd, F⟩ := c.def_ 16 (d := d__law_is_name) rfl; exact ⟨_, fd, FunD.filt F, He.glo_ok X G (c.fact 16 (f := .glo "_law_is_name") rfl)⟩
    · obtain ⟨fd, F⟩ := c.def_ 17 (d := d__law_are_flashes) rfl; exact ⟨_, fd, FunD.filt F, He.glo_ok X G (c.fact 17 (f := .glo "_law_are_flashes") rfl)⟩
    · obtain ⟨fd, F⟩ := c.def_ 18 (d := d_law) rfl; exact ⟨_, fd, FunD.filt F, He.glo_ok X G (c.fact 18 (f := .glo "law") rfl)⟩
  have hg : ∀ x d, tab.glb.lookup x = some d → ∃ v u, constV d = some v ∧ mg x = some u ∧ RelV v u := by
    refine glb_all ?_
    intro p hp
    simp only [tab, List.mem_cons, List.not_mem_nil, or_false] at hp
    rcases hp with rfl | rfl | rfl
    · obtain ⟨t, e⟩ := He.str_ok X G (c.fact 19 (f := .str "LETTERS" "abcdefghijklmnopqrstuvwxyz") rfl); exact ⟨_, _, rfl, e, ⟨t, rfl⟩⟩
    · obtain ⟨t, e⟩ := He.int_ok X G (c.fact 20 (f := .int "CLOCK" 1000000) rfl); exact ⟨_, _, rfl, e, ⟨t, rfl⟩⟩
    · obtain ⟨t, e⟩ := He.int_ok X G (c.fact 21 (f := .int "FLASHES" 24) rfl); exact ⟨_, _, rfl, e, ⟨t, rfl⟩⟩
  have hb : ∀ x, x ∈ tab.blt → mg x = none := by
    intro x hx
    simp only [tab, List.mem_cons, List.not_mem_nil, or_false] at hx
    rcases hx with rfl | rfl | rfl | rfl | rfl | rfl | rfl | rfl | rfl | rfl | rfl | rfl | rfl
    · exact He.free_ok X G (c.fact 22 (f := .free "isinstance") rfl)
    · exact He.free_ok X G (c.fact 23 (f := .free "int") rfl)
    · exact He.free_ok X G (c.fact 24 (f := .free "bool") rfl)
    · exact He.free_ok X G (c.fact 25 (f := .free "str") rfl)
    · exact He.free_ok X G (c.fact 26 (f := .free "len") rfl)
    · exact He.free_ok X G (c.fact 27 (f := .free "all") rfl)
    · exact He.free_ok X G (c.fact 28 (f := .free "zip") rfl)
    · exact He.free_ok X G (c.fact 29 (f := .free "tuple") rfl)
    · exact He.free_ok X G (c.fact 30 (f := .free "range") rfl)
    · exact He.free_ok X G (c.fact 31 (f := .free "list") rfl)
    · exact He.free_ok X G (c.fact 32 (f := .free "enumerate") rfl)
    · exact He.free_ok X G (c.fact 33 (f := .free "sorted") rfl)
    · exact He.free_ok X G (c.fact 34 (f := .free "set") rfl)
  obtain ⟨fd, F⟩ := c.def_ 18 (d := d_law) rfl
  have e := hfa.symm.trans (He.glo_ok X G (c.fact 18 (f := .glo "law") rfl))
  cases e
  have b := FunD.bindsA (ps := ["script"]) F fun _ _ _ _ _ _ us hl => match us, hl with | [_], _ => rfl
  refine ⟨fd, fun s v => b s [v] rfl, fun base _ _ => ?_⟩
  exact law_fn (rows := rows) (r := r_law) fns_eq hd hg hb ⟨by kernel_rfl, by kernel_rfl, rfl, rfl⟩ (FunD.filt F)
theorem v_is_number (n : Nat) (x0 x1 x2 : D) : lvl (DT rows) (n + 1) "is_number" [x0, x1, x2] = (b_is_number (lvl (DT rows) n) [some x0, some x1, some x2]).bind (fin false) := by
  have e : DT rows "is_number" = some r_is_number.d := by kernel_rfl
  simp only [lvl, e]
  rfl
theorem v_is_name (n : Nat) (x0 : D) : lvl (DT rows) (n + 1) "is_name" [x0] = (b_is_name (lvl (DT rows) n) [some x0, none]).bind (fin false) := by
  have e : DT rows "is_name" = some r_is_name.d := by kernel_rfl
  simp only [lvl, e]
  rfl
theorem v_rises (n : Nat) (x0 : D) : lvl (DT rows) (n + 1) "rises" [x0] = (b_rises (lvl (DT rows) n) [some x0, none, none]).bind (fin false) := by
  have e : DT rows "rises" = some r_rises.d := by kernel_rfl
  simp only [lvl, e]
  rfl
theorem v_is_flash (n : Nat) (x0 : D) : lvl (DT rows) (n + 1) "is_flash" [x0] = (b_is_flash (lvl (DT rows) n) [some x0]).bind (fin false) := by
  have e : DT rows "is_flash" = some r_is_flash.d := by kernel_rfl
  simp only [lvl, e]
  rfl
theorem v_are_flashes (n : Nat) (x0 : D) : lvl (DT rows) (n + 1) "are_flashes" [x0] = (b_are_flashes (lvl (DT rows) n) [some x0, none]).bind (fin false) := by
  have e : DT rows "are_flashes" = some r_are_flashes.d := by kernel_rfl
  simp only [lvl, e]
  rfl
theorem v__law_cell (n : Nat) (x0 x1 : D) : lvl (DT rows) (n + 1) "_law_cell" [x0, x1] = (b__law_cell (lvl (DT rows) n) [some x0, some x1]).bind (fin false) := by
  have e : DT rows "_law_cell" = some r__law_cell.d := by kernel_rfl
  simp only [lvl, e]
  rfl
theorem v__law_draws (n : Nat) (x0 x1 x2 x3 : D) : lvl (DT rows) (n + 1) "_law_draws" [x0, x1, x2, x3] = (b__law_draws (lvl (DT rows) n) [some x0, some x1, some x2, some x3, none, none, none, none, none, none]).bind (fin false) := by
  have e : DT rows "_law_draws" = some r__law_draws.d := by kernel_rfl
  simp only [lvl, e]
  rfl
theorem v__law_number (n : Nat) (x0 x1 x2 : D) : lvl (DT rows) (n + 1) "_law_number" [x0, x1, x2] = (b__law_number (lvl (DT rows) n) [some x0, some x1, some x2]).bind (fin false) := by
  have e : DT rows "_law_number" = some r__law_number.d := by kernel_rfl
  simp only [lvl, e]
  rfl
theorem v__law_truly (n : Nat) (x0 x1 : D) : lvl (DT rows) (n + 1) "_law_truly" [x0, x1] = (b__law_truly (lvl (DT rows) n) [some x0, some x1]).bind (fin false) := by
  have e : DT rows "_law_truly" = some r__law_truly.d := by kernel_rfl
  simp only [lvl, e]
  rfl
theorem v__law_places (n : Nat) (x0 : D) : lvl (DT rows) (n + 1) "_law_places" [x0] = (b__law_places (lvl (DT rows) n) [some x0, none, none, none, none]).bind (fin false) := by
  have e : DT rows "_law_places" = some r__law_places.d := by kernel_rfl
  simp only [lvl, e]
  rfl
theorem v__law_other (n : Nat) (x0 x1 : D) : lvl (DT rows) (n + 1) "_law_other" [x0, x1] = (b__law_other (lvl (DT rows) n) [some x0, some x1, none]).bind (fin false) := by
  have e : DT rows "_law_other" = some r__law_other.d := by kernel_rfl
  simp only [lvl, e]
  rfl
theorem v__law_shifted (n : Nat) (x0 x1 x2 : D) : lvl (DT rows) (n + 1) "_law_shifted" [x0, x1, x2] = (b__law_shifted (lvl (DT rows) n) [some x0, some x1, some x2, none, none]).bind (fin true) := by
  have e : DT rows "_law_shifted" = some r__law_shifted.d := by kernel_rfl
  simp only [lvl, e]
  rfl
theorem v__law_put (n : Nat) (x0 x1 x2 : D) : lvl (DT rows) (n + 1) "_law_put" [x0, x1, x2] = (b__law_put (lvl (DT rows) n) [some x0, some x1, some x2, none]).bind (fin false) := by
  have e : DT rows "_law_put" = some r__law_put.d := by kernel_rfl
  simp only [lvl, e]
  rfl
theorem v__law_bent (n : Nat) (x0 x1 : D) : lvl (DT rows) (n + 1) "_law_bent" [x0, x1] = (b__law_bent (lvl (DT rows) n) [some x0, some x1, none]).bind (fin false) := by
  have e : DT rows "_law_bent" = some r__law_bent.d := by kernel_rfl
  simp only [lvl, e]
  rfl
theorem v__law_thing (n : Nat) (x0 x1 : D) : lvl (DT rows) (n + 1) "_law_thing" [x0, x1] = (b__law_thing (lvl (DT rows) n) [some x0, some x1, none, none, none, none]).bind (fin false) := by
  have e : DT rows "_law_thing" = some r__law_thing.d := by kernel_rfl
  simp only [lvl, e]
  rfl
theorem v__law_flashes (n : Nat) (x0 x1 : D) : lvl (DT rows) (n + 1) "_law_flashes" [x0, x1] = (b__law_flashes (lvl (DT rows) n) [some x0, some x1, none, none, none, none, none, none, none, none, none]).bind (fin false) := by
  have e : DT rows "_law_flashes" = some r__law_flashes.d := by kernel_rfl
  simp only [lvl, e]
  rfl
theorem v__law_is_name (n : Nat) (x0 : D) : lvl (DT rows) (n + 1) "_law_is_name" [x0] = (b__law_is_name (lvl (DT rows) n) [some x0, none]).bind (fin false) := by
  have e : DT rows "_law_is_name" = some r__law_is_name.d := by kernel_rfl
  simp only [lvl, e]
  rfl
theorem v__law_are_flashes (n : Nat) (x0 : D) : lvl (DT rows) (n + 1) "_law_are_flashes" [x0] = (b__law_are_flashes (lvl (DT rows) n) [some x0, none, none]).bind (fin false) := by
  have e : DT rows "_law_are_flashes" = some r__law_are_flashes.d := by kernel_rfl
  simp only [lvl, e]
  rfl
theorem v_law (n : Nat) (x0 : D) : lvl (DT rows) (n + 1) "law" [x0] = (b_law (lvl (DT rows) n) [some x0, none, none, none, none, none, none, none, none, none, none, none]).bind (fin false) := by
  have e : DT rows "law" = some r_law.d := by kernel_rfl
  simp only [lvl, e]
  rfl
end L

open PySem PySem.W PySem.Calls PyProof.Rows in
theorem law_holds (n : Nat) (hr : L2.Room n callerA) (hlaw : ∀ ns : List Int, ns.length ≤ 63 → RE.lvl (RE.DT L.rows) n "law" [RE.D.scr ns] = some (RE.D.bl true)) : PySem.Challenge.rw_rigeyes_k11_flashes_known.Holds := by
  w_on; o_law
  refine HandSHeadRun.head_any (r := L.R0) (q := PySem.W.view L.R0.prog [24]) (H := L.hk) (ob := L.ob) (M := 4000) (loose := L.loose) (d := HandSHeadRun.topDef L.R0.prog 24) (kwd := []) L.ob_eq
    (by kernel_rfl) (fun s => by kernel_rfl) L.run (by kernel_rfl) (by kernel_rfl) (by kernel_rfl) (by rfl) (by first | assumption | decide +kernel) (by decide +kernel) ⟨rfl, rfl, rfl, rfl, rfl, by decide +kernel⟩ ?hw ?hc
  case hw => w_witness2
  case hc =>
    refine L2.walk_ofE (l := L.rw0) (n := 63) (k := n) (x := "script") (CX := L2.CX0) rfl (by decide) (by kernel_rfl) hr ?F (fun _ _ _ _ z => z)
    intro w mg fa h Y G hmg0
    obtain ⟨K, KX, c⟩ := Y
    have hmg : mg ("law" : PySem.Str) = some (.ref fa) := by
      have e : (HandSHeadRun.topDef L.R0.prog 24).name = ("law" : PySem.Str) := by kernel_rfl
      rw [← e]
      exact hmg0
    obtain ⟨fd, hb, hF⟩ := L.facts (P := L.rw0.prog) (w := w) KX G hmg c n
    exact ⟨RE.filt K, fd, _, RE.filt_in KX, hb, fun H a ns hl ho hS => RE.law_sp ho hS (hlaw ns hl), hF⟩
section
open PySem PySem.Spec PyProof.Rows L2 RE
namespace RE
theorem obS {α β : Type} (a : α) (f : α → Option β) : (some a).bind f = f a := (rfl)
theorem omS {α β : Type} (a : α) (f : α → β) : (some a).map f = some (f a) := (rfl)
/-! Part B: evaluation -/
section
variable (F : Fn) (ρ : RE.Env)
@[simp] theorem s_sSeq (f g : SS) : sSeq f g F ρ = (f F ρ).bind fun r => match r with | .nx ρ' => g F ρ' | .rt b d => some (.rt b d) := (rfl)
@[simp] theorem s_sNil : sNil F ρ = some (.nx ρ) := (rfl)
@[simp] theorem s_sRet (f : SE) : sRet f F ρ = (f F ρ).map (.rt false) := (rfl)
@[simp] theorem s_sRetT (f : SE) : sRetT f F ρ = (f F ρ).map (.rt true) := (rfl)
@[simp] theorem s_sIf (c : SB) (f g : SS) : sIf c f g F ρ = (c F ρ).bind fun b => if b then f F ρ else g F ρ := (rfl)
@[simp] theorem s_sAsg (f : SE) (a : SG) : sAsg f a F ρ = (f F ρ).bind fun d => (a d ρ).map .nx := (rfl)
@[simp] theorem s_sPar (is : List Nat) (f : SA) : sPar is f F ρ = (f F ρ).map fun ds => .nx (setAll ρ is ds) := (rfl)
@[simp] theorem s_sSetM (i : Nat) (f : SE) : sSetM i f F ρ = (f F ρ).map fun d => .nx (ρ.set i (some d)) := (rfl)
@[simp] theorem s_cND (f : SE) : cND f F ρ = (f F ρ).bind fun d => if isDic d then none else some d := (rfl)
@[simp] theorem s_cC (d : D) : cC d F ρ = some d := (rfl)
@[simp] theorem s_cB (o : D → D → Option D) (f g : SE) : cB o f g F ρ = (f F ρ).bind fun x => (g F ρ).bind fun y => o x y := (rfl)
@[simp] theorem s_cU (o : D → Option D) (f : SE) : cU o f F ρ = (f F ρ).bind o := (rfl)
@[simp] theorem s_cTup (g : SA) : cTup g F ρ = (g F ρ).bind mkTup := (rfl)
@[simp] theorem s_cLst (g : SA) : cLst g F ρ = (g F ρ).bind mkLst := (rfl)
@[simp] theorem s_cNil : cNil F ρ = some [] := (rfl)
@[simp] theorem s_cCons (f : SE) (g : SA) : cCons f g F ρ = (f F ρ).bind fun d => (g F ρ).bind fun ds => some (d :: ds) := (rfl)
@[simp] theorem s_cCall (o : List D → Option D) (g : SA) : cCall o g F ρ = (g F ρ).bind o := (rfl)
@[simp] theorem s_cFn (f : Str) (g : SA) : cFn f g F ρ = (g F ρ).bind fun ds => F f ds := (rfl)
@[simp] theorem s_cIx (f g : SE) : cIx f g F ρ = (f F ρ).bind fun x => (g F ρ).bind fun y => idxD x y := (rfl)
@[simp] theorem s_cAnd (f g : SE) : cAnd f g F ρ = (f F ρ).bind fun d => (truD d).bind fun b => if b then g F ρ else some d := (rfl)
@[simp] theorem s_cOr (f g : SE) : cOr f g F ρ = (f F ρ).bind fun d => (truD d).bind fun b => if b then some d else g F ρ := (rfl)
@[simp] theorem s_cNot (f : SE) : cNot f F ρ = (f F ρ).bind fun d => (truD d).map fun b => .bl (!b) := (rfl)
@[simp] theorem s_cIf (c : SB) (f g : SE) : cIf c f g F ρ = (c F ρ).bind fun b => if b then f F ρ else g F ρ := (rfl)
@[simp] theorem s_cTr (f : SE) : cTr f F ρ = (f F ρ).bind truD := (rfl)
@[simp] theorem s_cBT (o : D → D → Option D) (f g : SE) : cBT o f g F ρ = ((f F ρ).bind fun x => (g F ρ).bind fun y => o x y).bind boolD := (rfl)
@[simp] theorem s_cAndT (f g : SB) : cAndT f g F ρ = (f F ρ).bind fun b => if b then g F ρ else some false := (rfl)
@[simp] theorem s_cOrT (f g : SB) : cOrT f g F ρ = (f F ρ).bind fun b => if b then some true else g F ρ := (rfl)
@[simp] theorem s_cNotT (f : SB) : cNotT f F ρ = (f F ρ).map (!·) := (rfl)
@[simp] theorem s_cCh (o o' : D → D → Option D) (f g h : SE) : cCh o o' f g h F ρ = (f F ρ).bind fun x => (g F ρ).bind fun y => (o x y).bind fun z => (boolD z).bind fun c => if c then (h F ρ).bind fun w => o' y w else some (.bl false) := (rfl)
@[simp] theorem s_cChT (o o' : D → D → Option D) (f g h : SE) : cChT o o' f g h F ρ = (cCh o o' f g h F ρ).bind boolD := (rfl)
@[simp] theorem s_cSl (f : SE) (g h : SO) : cSl f g h F ρ = (f F ρ).bind fun d => (g F ρ).bind fun l => (h F ρ).bind fun u => slcD l u d := (rfl)
@[simp] theorem s_sFor (fi : SL) (a : SG) (b : SS) : sFor fi a b F ρ = (fi F ρ).bind fun ds => forD a (b F) ds ρ := (rfl)
@[simp] theorem s_cWalk (f : SE) : cWalk f F ρ = (f F ρ).bind walkL := (rfl)
@[simp] theorem s_cLc (own : List Nat) (fi : SL) (a : SG) (t : SB) (e : SE) : cLc own fi a t e F ρ = (fi F ρ).bind fun ds => (lcAll (lcOne a t e F (wipeE ρ own)) ds).bind mkLst := (rfl)
@[simp] theorem s_lcOne (a : SG) (t : SB) (e : SE) (d : D) : lcOne a t e F ρ d = (a d ρ).bind fun ρ' => (t F ρ').bind fun b => if b then (e F ρ').map fun y => [y] else some [] := (rfl)
@[simp] theorem s_cTrue : cTrue F ρ = some true := (rfl)
@[simp] theorem s_sApp (i : Nat) (f : SE) : sApp i f F ρ = (f F ρ).bind fun d => match cV i F ρ with
  | some (.lst xs) => if fits (xs.length + 1) then some (.nx (ρ.set i (some (.lst (xs ++ [d]))))) else none
  | _ => none := (rfl)
@[simp] theorem s_gN (i : Nat) (d : D) : gN i d ρ = some (ρ.set i (some d)) := (rfl)
@[simp] theorem s_gT (b : SGs) (ds : List D) : gT b (.tup ds) ρ = b ds ρ := (rfl)
@[simp] theorem s_gsNil : gsNil [] ρ = some ρ := (rfl)
@[simp] theorem s_gsCons (a : SG) (b : SGs) (d : D) (ds : List D) : gsCons a b (d :: ds) ρ = (a d ρ).bind (b ds) := (rfl)
end
@[simp] theorem s_cV0 (F : Fn) (d : D) (ρ : RE.Env) : cV 0 F (some d :: ρ) = some d := (rfl)
@[simp] theorem s_cVs (F : Fn) (i : Nat) (x : Option D) (ρ : RE.Env) : cV (i + 1) F (x :: ρ) = cV i F ρ := (rfl)
@[simp] theorem s_finR (b : Bool) (v : D) (nw : Bool) : fin nw (.rt b v) = if (nw && !b) = true then none else some v := (rfl)
@[simp] theorem s_finN (ρ : RE.Env) (nw : Bool) : fin nw (.nx ρ) = some .non := (rfl)
@[simp] theorem s_boolD (b : Bool) : boolD (.bl b) = some b := (rfl)
@[simp] theorem s_truB (b : Bool) : truD (.bl b) = some b := (rfl)
@[simp] theorem s_setAll0 {α : Type} (l : List (Option α)) : setAll l [] [] = l := (rfl)
@[simp] theorem s_setAll1 {α : Type} (l : List (Option α)) (i : Nat) (is : List Nat) (d : α) (ds : List α) : setAll l (i :: is) (d :: ds) = setAll (l.set i (some d)) is ds := (rfl)
@[simp] theorem s_op1 (o : D → Option D) (x : D) : op1 o [x] = o x := (rfl)
@[simp] theorem s_op2 (o : D → D → Option D) (x y : D) : op2 o [x, y] = o x y := (rfl)
@[simp] theorem s_abs (i : Int) : absD (.int i) = some (.int (if i < 0 then -i else i)) := (rfl)
@[simp] theorem s_addI (i j : Int) : addD (.int i) (.int j) = some (.int (i + j)) := (rfl)
@[simp] theorem s_subI (i j : Int) : subD (.int i) (.int j) = some (.int (i - j)) := (rfl)
theorem mod_ev {i j : Int} (h : j ≠ 0) : modD (.int i) (.int j) = some (.int (i.fmod j)) := by simp [modD, h]
@[simp] theorem mod_nat (i : Int) (j : Nat) (h : j ≠ 0 := by decide) : modD (.int i) (.int (j : Int)) = some (.int (i.fmod j)) := by simp [modD, h]
theorem fdiv_ev {i j : Int} (h : j ≠ 0) (w : wid j = true) : fdivD (.int i) (.int j) = some (.int (i.fdiv j)) := by simp [fdivD, h, w]
theorem mul_ev {i j : Int} (h : wim i = true) (w : wim j = true) : mulD (.int i) (.int j) = some (.int (i * j)) := by simp [mulD, h, w]
@[simp] theorem eqI (i j : Int) : eqD (.int i) (.int j) = some (.bl (decide (i = j))) := by
  simp [eqD, pd2, pd, eqv, toP, PyData.eqv]
  first | done | (by_cases h : i = j <;> simp [h])
@[simp] theorem neI (i j : Int) : neD (.int i) (.int j) = some (.bl (!decide (i = j))) := by
  simp [neD, pd2, pd, eqv, toP, PyData.eqv]
  first | done | (by_cases h : i = j <;> simp [h])
@[simp] theorem ltI (i j : Int) : ltD (.int i) (.int j) = some (.bl (decide (i < j))) := by
  simp [ltD, cmpOk, isNon, pd2, pd, alk, ltv, toP, PySem.W.alike, PySem.W.dataLt_int]
@[simp] theorem gtI (i j : Int) : gtD (.int i) (.int j) = some (.bl (decide (j < i))) := by
  simp [gtD, cmpOk, isNon, pd2, pd, alk, ltv, toP, PySem.W.alike, PySem.W.dataLt_int]
@[simp] theorem leI (i j : Int) : leD (.int i) (.int j) = some (.bl (decide (i ≤ j))) := by
  simp [leD, cmpOk, isNon, pd2, pd, alk, ltv, toP, PySem.W.alike, PySem.W.dataLt_int]
  first | done | (simp [← Int.not_le]) | omega
@[simp] theorem geI (i j : Int) : geD (.int i) (.int j) = some (.bl (decide (j ≤ i))) := by
  simp [geD, cmpOk, isNon, pd2, pd, alk, ltv, toP, PySem.W.alike, PySem.W.dataLt_int]
  first | done | (simp [← Int.not_le]) | omega
theorem mkTup_ev {ds : List D} (h : fits ds.length = true) : mkTup ds = some (.tup ds) := by simp [mkTup, h]
@[simp] theorem mkTup1 (a : D) : mkTup [a] = some (.tup [a]) := (rfl)
@[simp] theorem mkTup2 (a b : D) : mkTup [a, b] = some (.tup [a, b]) := (rfl)
@[simp] theorem mkTup3 (a b c : D) : mkTup [a, b, c] = some (.tup [a, b, c]) := (rfl)
@[simp] theorem idx_t0 (a : D) (l : List D) : idxD (.tup (a :: l)) (.int 0) = some a := by
  simp only [idxD, L2.atI, List.length_cons]
  simp [L2.ixN]
@[simp] theorem idx_t1 (a b : D) (l : List D) : idxD (.tup (a :: b :: l)) (.int 1) = some b := by
  have : ((1 : Int) < ((a :: b :: l).length : Int)) := by simp only [List.length_cons]; omega
  simp only [idxD, L2.atI, L2.ixN, if_pos (show (0 : Int) ≤ 1 by decide), if_pos this]
  rfl
@[simp] theorem idx_t2 (a b c : D) (l : List D) : idxD (.tup (a :: b :: c :: l)) (.int 2) = some c := by
  have : ((2 : Int) < ((a :: b :: c :: l).length : Int)) := by simp only [List.length_cons]; omega
  simp only [idxD, L2.atI, L2.ixN, if_pos (show (0 : Int) ≤ 2 by decide), if_pos this]
  rfl
end RE
namespace RE
theorem fmod_nn (a b : Nat) : Int.fmod (a : Int) (b : Int) = ((a % b : Nat) : Int) := by
  rw [Int.fmod_eq_emod_of_nonneg _ (by omega)]
  omega
/-- the loop that finds the greatest common divisor, any test that says «other is not 0» of natural numbers -/
theorem gcd_loop (F : Fn) (c : SB) (ρ : RE.Env) (hc : ∀ a b : Nat, c F (some (.int a) :: some (.int b) :: ρ) = some (!decide (b = 0))) : ∀ b a : Nat, ∃ n, whileD (c F) (sSeq (sPar [0, 1] (cCons (cV 1) (cCons (cB modD (cV 0) (cV 1)) (cNil)))) (sNil) F) n (some (.int a) :: some (.int b) :: ρ) = some (.nx (some (.int (Nat.gcd a b : Nat)) :: some (.int 0) :: ρ)) := by
  intro b
  induction b using Nat.strongRecOn with
  | _ b ih =>
    intro a
    by_cases hb : b = 0
    · subst hb
      refine ⟨1, ?_⟩
      rw [whileD, hc]
      simp
    · obtain ⟨n, e⟩ := ih (a % b) (Nat.mod_lt _ (by omega)) b
      refine ⟨n + 1, ?_⟩
      rw [whileD, hc]
      have hm : modD (.int a) (.int b) = some (.int ((a % b : Nat) : Int)) := by rw [mod_ev (by omega), fmod_nn]
      simp only [obS, hb, decide_false, Bool.not_false, if_true]
      have e1 : sSeq (sPar [0, 1] (cCons (cV 1) (cCons (cB modD (cV 0) (cV 1)) (cNil)))) (sNil) F (some (.int a) :: some (.int b) :: ρ) = some (.nx (some (.int b) :: some (.int ((a % b : Nat) : Int)) :: ρ)) := by
        simp [hm]
      rw [e1]
      simp only [obS]
      rw [e, Nat.gcd_comm b, ← Nat.gcd_rec, Nat.gcd_comm]
theorem abs_nat (i : Int) : (if i < 0 then -i else i) = (i.natAbs : Int) := by omega
end RE
namespace RE
/-- a rational number as the text writes it -/
def rt (r : Rat) : D := .tup [.int r.num, .int r.den]
/-- its two numbers are below 2^k -/
def Sz (k : Nat) (r : Rat) : Prop := r.num.natAbs < 2 ^ k ∧ r.den < 2 ^ k
theorem log_lt {n k : Nat} (h : n < 2 ^ k) (hk : 0 < k) : n.log2 < k := by
  by_cases h0 : n = 0
  · subst h0; rw [Nat.log2_zero]; exact hk
  · exact (Nat.log2_lt h0).mpr h
theorem wid_of {i : Int} {k : Nat} (h : i.natAbs < 2 ^ k) (hk : k ≤ 8999) : wid i = true := by
  unfold wid
  have h2 : i.natAbs < 2 ^ (k + 1) := Nat.lt_of_lt_of_le h (Nat.pow_le_pow_right (by omega) (by omega))
  have := log_lt h2 (by omega)
  exact decide_eq_true (by omega)
theorem wim_of {i : Int} {k : Nat} (h : i.natAbs < 2 ^ k) (hk : k ≤ 20000) : wim i = true := by
  unfold wim
  have h2 : i.natAbs < 2 ^ (k + 1) := Nat.lt_of_lt_of_le h (Nat.pow_le_pow_right (by omega) (by omega))
  have := log_lt h2 (by omega)
  exact decide_eq_true (by omega)
theorem mul_sz {i j : Int} {k l : Nat} (h : i.natAbs < 2 ^ k) (g : j.natAbs < 2 ^ l) : (i * j).natAbs < 2 ^ (k + l) := by
  rw [Int.natAbs_mul, Nat.pow_add]
  exact Nat.mul_lt_mul'' h g
theorem add_sz {i j : Int} {k : Nat} (h : i.natAbs < 2 ^ k) (g : j.natAbs < 2 ^ k) : (i + j).natAbs < 2 ^ (k + 1) := by
  rw [Nat.pow_succ]; omega
theorem sub_sz {i j : Int} {k : Nat} (h : i.natAbs < 2 ^ k) (g : j.natAbs < 2 ^ k) : (i - j).natAbs < 2 ^ (k + 1) := by
  rw [Nat.pow_succ]; omega
theorem sz_le {k l : Nat} (h : k ≤ l) {n : Nat} (g : n < 2 ^ k) : n < 2 ^ l := Nat.lt_of_lt_of_le g (Nat.pow_le_pow_right (by omega) h)
theorem Sz.le {k l : Nat} (h : k ≤ l) {r : Rat} (g : Sz k r) : Sz l r := ⟨sz_le h g.1, sz_le h g.2⟩
/-- upper and lower by their signed greatest divisor -/
theorem divInt_parts {u l : Int} (hl : l ≠ 0) : u.fdiv ((Int.gcd u l : Int) * (if 0 < l then 1 else 0 - 1)) = (Rat.divInt u l).num ∧ l.fdiv ((Int.gcd u l : Int) * (if 0 < l then 1 else 0 - 1)) = ((Rat.divInt u l).den : Int) := by
  rw [Rat.num_divInt, Rat.den_divInt, if_neg hl, Int.gcd_comm l u]
  have hg : (0 : Int) < (Int.gcd u l : Int) := by
    have := Int.gcd_pos_iff.mpr (.inr hl : u ≠ 0 ∨ l ≠ 0)
    omega
  have d1 : (Int.gcd u l : Int) ∣ u := Int.gcd_dvd_left ..
  have d2 : (Int.gcd u l : Int) ∣ l := Int.gcd_dvd_right ..
  generalize (Int.gcd u l) = g at *
  obtain ⟨a, rfl⟩ := d1
  obtain ⟨b, rfl⟩ := d2
  have hg0 : (g : Int) ≠ 0 := by omega
  have hb0 : b ≠ 0 := fun z => hl (by rw [z]; simp)
  by_cases hb : 0 < (g : Int) * b
  · have hb1 : 0 < b := by
      rcases Int.lt_or_gt_of_ne hb0 with z | z
      · have := Int.mul_neg_of_pos_of_neg hg z; omega
      · exact z
    rw [if_pos hb, Int.mul_one, Int.sign_eq_one_of_pos hb, Int.one_mul, Int.mul_fdiv_cancel_left _ hg0, Int.mul_fdiv_cancel_left _ hg0, Int.mul_ediv_cancel_left _ hg0]
    refine ⟨rfl, ?_⟩
    rw [Int.natAbs_mul, Int.natAbs_natCast, Nat.mul_div_cancel_left _ (by omega)]
    omega
  · have hb1 : b < 0 := by
      rcases Int.lt_or_gt_of_ne hb0 with z | z
      · exact z
      · have := Int.mul_pos hg z; omega
    have hn : (g : Int) * b < 0 := Int.mul_neg_of_pos_of_neg hg hb1
    rw [if_neg hb, Int.sign_eq_neg_one_of_neg hn]
    have e : (g : Int) * (0 - 1) = -(g : Int) := by omega
    have n0 : -(g : Int) ≠ 0 := by omega
    have e1 : (g : Int) * a = -(g : Int) * (-a) := by rw [Int.neg_mul_neg]
    have e2 : (g : Int) * b = -(g : Int) * (-b) := by rw [Int.neg_mul_neg]
    rw [e]
    constructor
    · rw [e1, Int.mul_fdiv_cancel_left _ n0, Int.neg_mul_neg, Int.neg_one_mul, ← Int.mul_neg, Int.mul_ediv_cancel_left _ hg0]
    · rw [e2, Int.mul_fdiv_cancel_left _ n0, Int.neg_mul_neg, Int.natAbs_mul, Int.natAbs_natCast, Nat.mul_div_cancel_left _ (by omega)]
      omega
theorem divInt_sz {u l : Int} {k : Nat} (hl : l ≠ 0) (h : u.natAbs < 2 ^ k) (g : l.natAbs < 2 ^ k) : Sz k (Rat.divInt u l) := by
  unfold Sz
  rw [Rat.num_divInt, Rat.den_divInt, if_neg hl]
  constructor
  · refine Nat.lt_of_le_of_lt ?_ h
    refine Nat.le_trans (Int.natAbs_ediv_le_natAbs _ _) ?_
    rw [Int.natAbs_mul]
    have : l.sign.natAbs ≤ 1 := by
      rcases Int.lt_trichotomy l 0 with z | z | z
      · rw [Int.sign_eq_neg_one_of_neg z]; decide
      · exact absurd z hl
      · rw [Int.sign_eq_one_of_pos z]; decide
    exact Nat.le_trans (Nat.mul_le_mul_right _ this) (by omega)
  · exact Nat.lt_of_le_of_lt (Nat.div_le_self _ _) g
theorem gcd_le_r {u l : Int} (hl : l ≠ 0) : Int.gcd u l ≤ l.natAbs := by
  have := Int.natAbs_dvd_natAbs.mpr (Int.gcd_dvd_right u l)
  exact Nat.le_of_dvd (by omega) (by simpa using this)
/-- r - s, r + s, r * s, by their numbers -/
theorem sub_parts (r s : Rat) : Rat.divInt (r.num * s.den - s.num * r.den) (r.den * s.den) = r - s := by
  have h1 : (r.den : Int) ≠ 0 := by have := r.den_nz; omega
  have h2 : (s.den : Int) ≠ 0 := by have := s.den_nz; omega
  conv => rhs; rw [← Rat.num_divInt_den r, ← Rat.num_divInt_den s]
  exact (Rat.divInt_sub_divInt _ _ h1 h2).symm
theorem add_parts (r s : Rat) : Rat.divInt (r.num * s.den + s.num * r.den) (r.den * s.den) = r + s := by
  have h1 : (r.den : Int) ≠ 0 := by have := r.den_nz; omega
  have h2 : (s.den : Int) ≠ 0 := by have := s.den_nz; omega
  conv => rhs; rw [← Rat.num_divInt_den r, ← Rat.num_divInt_den s]
  exact (Rat.divInt_add_divInt _ _ h1 h2).symm
theorem mul_parts (r s : Rat) : Rat.divInt (r.num * s.num) (r.den * s.den) = r * s := by
  conv => rhs; rw [← Rat.num_divInt_den r, ← Rat.num_divInt_den s]
  exact (Rat.divInt_mul_divInt _ _).symm
theorem dens_ne (r s : Rat) : (r.den : Int) * s.den ≠ 0 := by
  have h1 : (r.den : Int) ≠ 0 := by have := r.den_nz; omega
  have h2 : (s.den : Int) ≠ 0 := by have := s.den_nz; omega
  exact Int.mul_ne_zero h1 h2
theorem sub_Sz {r s : Rat} {k : Nat} (h : Sz k r) (g : Sz k s) : Sz (2 * k + 1) (r - s) := by
  rw [← sub_parts]
  refine divInt_sz (dens_ne r s) (sub_sz (k := 2 * k) ?_ ?_) (sz_le (k := 2 * k) (by omega) ?_)
  · have := mul_sz h.1 (j := s.den) (l := k) (by simpa using g.2); rwa [show 2 * k = k + k by omega]
  · have := mul_sz g.1 (j := r.den) (l := k) (by simpa using h.2); rwa [show 2 * k = k + k by omega]
  · have := mul_sz (i := r.den) (k := k) (by simpa using h.2) (j := s.den) (l := k) (by simpa using g.2); rwa [show 2 * k = k + k by omega]
theorem add_Sz {r s : Rat} {k : Nat} (h : Sz k r) (g : Sz k s) : Sz (2 * k + 1) (r + s) := by
  rw [← add_parts]
  refine divInt_sz (dens_ne r s) (add_sz (k := 2 * k) ?_ ?_) (sz_le (k := 2 * k) (by omega) ?_)
  · have := mul_sz h.1 (j := s.den) (l := k) (by simpa using g.2); rwa [show 2 * k = k + k by omega]
  · have := mul_sz g.1 (j := r.den) (l := k) (by simpa using h.2); rwa [show 2 * k = k + k by omega]
  · have := mul_sz (i := r.den) (k := k) (by simpa using h.2) (j := s.den) (l := k) (by simpa using g.2); rwa [show 2 * k = k + k by omega]
theorem mul_Sz {r s : Rat} {k l : Nat} (h : Sz k r) (g : Sz l s) : Sz (k + l) (r * s) := by
  rw [← mul_parts]
  exact divInt_sz (dens_ne r s) (mul_sz h.1 g.1) (mul_sz (i := r.den) (k := k) (by simpa using h.2) (j := s.den) (l := l) (by simpa using g.2))
end RE
namespace RE
theorem atI_lt {α : Type} {l : List α} {i : Nat} (h : i < l.length) : L2.atI l (i : Int) = some l[i] := by
  unfold L2.atI L2.ixN
  rw [if_pos (by omega), if_pos (by omega)]
  simp [h]
/-- an index within -/
theorem idx_tup {l : List D} {i : Nat} (h : i < l.length) : idxD (.tup l) (.int (i : Int)) = some l[i] := atI_lt h
theorem idx_lst {l : List D} {i : Nat} (h : i < l.length) : idxD (.lst l) (.int (i : Int)) = some l[i] := atI_lt h
theorem idx_scr {l : List Int} {i : Nat} (h : i < l.length) : idxD (.scr l) (.int (i : Int)) = some (.int l[i]) := by
  show (L2.atI l (i : Int)).map D.int = _
  rw [atI_lt h]; rfl
theorem fits_of {n : Nat} (h : n ≤ 100000) : fits n = true := by
  unfold fits
  exact decide_eq_true (Nat.le_trans h (by decide))
theorem mkLst_ev {ds : List D} (h : ds.length ≤ 100000) : mkLst ds = some (.lst ds) := by
  unfold mkLst; rw [fits_of h]; rfl
theorem add_lst {a b : List D} (h : a.length + b.length ≤ 100000) : addD (.lst a) (.lst b) = some (.lst (a ++ b)) := by
  simp only [addD]; rw [fits_of h]; rfl
theorem add_tup {a b : List D} (h : a.length + b.length ≤ 100000) : addD (.tup a) (.tup b) = some (.tup (a ++ b)) := by
  simp only [addD]; rw [fits_of h]; rfl
theorem small_of {j : Nat} (h : j ≤ 100000) : small62 (j : Int) = true := by
  unfold small62
  rw [decide_eq_true (show -(2 ^ 62) ≤ (j : Int) by omega), decide_eq_true (show (j : Int) < 2 ^ 62 by omega)]; rfl
theorem rng1_ev {j : Nat} (h : j ≤ 100000) : rng1D (.int (j : Int)) = some ((List.range j).map fun i => .int (i : Nat)) := by
  simp only [rng1D]
  rw [small_of h]
  simp [rngL]
theorem fmod_rng (a : Int) {b : Int} (h : 0 < b) : 0 ≤ a.fmod b ∧ a.fmod b < b := ⟨Int.fmod_nonneg_of_pos _ h, Int.fmod_lt_of_pos _ h⟩
theorem cut_nat {α : Type} (xs : List α) (a b : Nat) : cutL xs (some (a : Int)) (some (b : Int)) = (xs.drop a).take (b - a) := by
  unfold cutL
  rw [HT.sIx_nat, HT.sIx_nat]
  by_cases ha : a ≤ xs.length
  · rw [Nat.min_eq_left ha]
    by_cases hb : b ≤ xs.length
    · rw [Nat.min_eq_left hb]
    · rw [Nat.min_eq_right (by omega), List.take_of_length_le (by simp), List.take_of_length_le (by simp; omega)]
  · rw [Nat.min_eq_right (a := a) (by omega), List.drop_eq_nil_of_le (Nat.le_refl _), List.drop_eq_nil_of_le (as := xs) (i := a) (by omega)]
    simp
theorem cut_to {α : Type} (xs : List α) (b : Nat) : cutL xs none (some (b : Int)) = xs.take b := by
  unfold cutL
  rw [HT.sIx_nat, HT.sIx_none, List.drop_zero, Nat.sub_zero]
  by_cases hb : b ≤ xs.length
  · rw [Nat.min_eq_left hb]
  · rw [Nat.min_eq_right (by omega), List.take_length, List.take_of_length_le (by omega)]
theorem cut_from {α : Type} (xs : List α) (a : Nat) : cutL xs (some (a : Int)) none = xs.drop a := by
  unfold cutL
  rw [HT.sIx_nat, HT.sIx_none]
  by_cases ha : a ≤ xs.length
  · rw [Nat.min_eq_left ha, List.take_of_length_le (by simp)]
  · rw [Nat.min_eq_right (by omega), List.drop_eq_nil_of_le (Nat.le_refl _), List.drop_eq_nil_of_le (as := xs) (i := a) (by omega)]
    simp
@[simp] theorem s_cNone (F : Fn) (ρ : RE.Env) : cNone F ρ = some none := (rfl)
@[simp] theorem s_lenT (l : List D) : lenD (.tup l) = some (.int l.length) := (rfl)
@[simp] theorem s_lenL (l : List D) : lenD (.lst l) = some (.int l.length) := (rfl)
@[simp] theorem s_lenS (l : List Int) : lenD (.scr l) = some (.int l.length) := (rfl)
@[simp] theorem s_slT (l : List D) (a b : Option Int) : slcD a b (.tup l) = some (.tup (cutL l a b)) := (rfl)
@[simp] theorem s_slL (l : List D) (a b : Option Int) : slcD a b (.lst l) = some (.lst (cutL l a b)) := (rfl)
end RE
namespace RE
@[simp] theorem s_cPart (f : SE) (F : Fn) (ρ : RE.Env) : cPart f F ρ = (f F ρ).bind fun d => (intD d).map some := (rfl)
@[simp] theorem s_intD (i : Int) : intD (.int i) = some i := (rfl)
@[simp] theorem s_cRng1 (f : SE) (F : Fn) (ρ : RE.Env) : cRng1 f F ρ = (f F ρ).bind rng1D := (rfl)
@[simp] theorem s_walkL (l : List D) : walkL (.lst l) = some l := (rfl)
@[simp] theorem s_walkT (l : List D) : walkL (.tup l) = some l := (rfl)
end RE
namespace RE
def natD (i : Nat) : D := .int (i : Int)
theorem nats_of {l : List Int} (h : ∀ x ∈ l, 0 ≤ x) : l.map D.int = (l.map Int.toNat).map natD := by
  rw [List.map_map]
  refine List.map_congr_left fun x hx => ?_
  have := h x hx
  show D.int x = D.int ((x.toNat : Nat) : Int)
  rw [Int.toNat_of_nonneg this]
theorem idx_nat {ds : List Nat} {i : Nat} (h : i < ds.length) : idxD (.lst (ds.map natD)) (.int (i : Int)) = some (natD ds[i]) := by
  rw [idx_lst (by rw [List.length_map]; exact h), List.getElem_map]
theorem idx_natT {ds : List Nat} {i : Nat} (h : i < ds.length) : idxD (.tup (ds.map natD)) (.int (i : Int)) = some (natD ds[i]) := by
  rw [idx_tup (by rw [List.length_map]; exact h), List.getElem_map]
theorem modN (a b : Nat) (hb : b ≠ 0) : modD (natD a) (.int (b : Int)) = some (natD (a % b)) := by
  unfold natD
  rw [mod_nat _ _ hb]
  exact congrArg (fun z => some (D.int z)) (fmod_nn a b)
theorem mod_rng {x : Int} {b : Nat} (hb : b ≠ 0) : ∃ j : Nat, j < b ∧ modD (.int x) (.int (b : Int)) = some (natD j) := by
  have h := fmod_rng x (show (0 : Int) < b by omega)
  refine ⟨(x.fmod b).toNat, by omega, ?_⟩
  rw [mod_nat _ _ hb]
  unfold natD
  rw [Int.toNat_of_nonneg h.1]
theorem cut_natL (ds : List Nat) (lo hi : Option Int) : cutL (ds.map natD) lo hi = (cutL ds lo hi).map natD := by
  unfold cutL
  rw [List.length_map, List.map_take, List.map_drop]
@[simp] theorem s_cEnum (f : SE) (F : Fn) (ρ : RE.Env) : cEnum f F ρ = ((f F ρ).bind walkL).map (enumL 0) := (rfl)
@[simp] theorem s_sPut (j : Nat) (f g : SE) (F : Fn) (ρ : RE.Env) : sPut j f g F ρ = (g F ρ).bind fun v => (cV j F ρ).bind fun o => (f F ρ).bind fun k => (putD o k v).map fun d => .nx (ρ.set j (some d)) := (rfl)
theorem put_lst {l : List D} {i : Nat} (h : i < l.length) (v : D) : putD (.lst l) (.int (i : Int)) v = some (.lst (l.set i v)) := by
  simp only [putD, L2.ixN]
  rw [if_pos (by omega), if_pos (by omega)]
  simp
@[simp] theorem s_revL (l : List D) : revD (.lst l) = some (.lst l.reverse) := (rfl)
@[simp] theorem s_revT (l : List D) : revD (.tup l) = some (.tup l.reverse) := (rfl)
@[simp] theorem s_listL (l : List D) : listDD (.lst l) = some (.lst l) := (rfl)
@[simp] theorem s_listT (l : List D) : listDD (.tup l) = some (.lst l) := (rfl)
@[simp] theorem s_tupleL (l : List D) : tupleD (.lst l) = some (.tup l) := (rfl)
@[simp] theorem s_tupleT (l : List D) : tupleD (.tup l) = some (.tup l) := (rfl)
@[simp] theorem s_isDicLst (l : List D) : isDic (.lst l) = false := (rfl)
@[simp] theorem s_isDicTup (l : List D) : isDic (.tup l) = false := (rfl)
@[simp] theorem s_isDicInt (i : Int) : isDic (.int i) = false := (rfl)
end RE
namespace RE
theorem wipeE_nil (ρ : RE.Env) : wipeE ρ [] = ρ := (rfl)
theorem wipeE_cons (ρ : RE.Env) (v : Nat) (vs : List Nat) : wipeE ρ (v :: vs) = (wipeE ρ vs).set v none := (rfl)
/-- a comprehension whose every turn gives -/
theorem lc_all {one : D → Option (List D)} {f : D → D} : ∀ {l : List D}, (∀ d ∈ l, one d = some [f d]) → lcAll one l = some (l.map f)
  | [], _ => rfl
  | d :: l, h => by
    simp only [lcAll]
    rw [h d List.mem_cons_self, lc_all fun e he => h e (List.mem_cons_of_mem _ he)]
    rfl
theorem lc_flat {one : D → Option (List D)} {f : D → List D} : ∀ {l : List D}, (∀ d ∈ l, one d = some (f d)) → lcAll one l = some (l.flatMap f)
  | [], _ => rfl
  | d :: l, h => by
    simp only [lcAll]
    rw [h d List.mem_cons_self, lc_flat fun e he => h e (List.mem_cons_of_mem _ he)]
    rfl
/-- a comprehension whose turns give something with a property -/
theorem lc_ex {α : Type} {one : D → Option (List D)} {P : α → D → Prop} {f : α → D} : ∀ {l : List α}, (∀ a ∈ l, ∃ y, one (f a) = some [y] ∧ P a y) → ∃ ys : List D, ys.length = l.length ∧ lcAll one (l.map f) = some ys ∧ ∀ y ∈ ys, ∃ a ∈ l, P a y
  | [], _ => ⟨[], rfl, rfl, by simp⟩
  | d :: l, h => by
    obtain ⟨y, h1, h2⟩ := h d List.mem_cons_self
    obtain ⟨ys, g1, g2, g3⟩ := lc_ex (l := l) fun e he => h e (List.mem_cons_of_mem _ he)
    refine ⟨y :: ys, by simp [g1], ?_, ?_⟩
    · simp only [List.map_cons, lcAll]
      rw [h1, g2]; rfl
    · intro z hz
      rcases List.mem_cons.mp hz with rfl | hz
      · exact ⟨d, List.mem_cons_self, h2⟩
      · obtain ⟨a, ha, hp⟩ := g3 z hz
        exact ⟨a, List.mem_cons_of_mem _ ha, hp⟩
end RE
namespace RE
theorem lc_map {α : Type} {one : D → Option (List D)} {f g : α → D} : ∀ {l : List α}, (∀ a ∈ l, one (f a) = some [g a]) → lcAll one (l.map f) = some (l.map g)
  | [], _ => rfl
  | d :: l, h => by
    simp only [List.map_cons, lcAll]
    rw [h d List.mem_cons_self, lc_map fun e he => h e (List.mem_cons_of_mem _ he)]
    rfl
/-- which turns are kept -/
theorem lc_filter {α : Type} {one : D → Option (List D)} {f g : α → D} {p : α → Bool} : ∀ {l : List α}, (∀ a ∈ l, one (f a) = some (if p a then [g a] else [])) → lcAll one (l.map f) = some ((l.filter p).map g)
  | [], _ => rfl
  | d :: l, h => by
    simp only [List.map_cons, lcAll]
    rw [h d List.mem_cons_self, lc_filter fun e he => h e (List.mem_cons_of_mem _ he)]
    cases hp : p d <;> simp [hp]
end RE
namespace RE
/-- a loop by its invariant -/
theorem for_inv {asg : SG} {body : RE.Env → Option Res} (I : Nat → RE.Env → Prop) : ∀ (l : List D) (k : Nat) (ρ : RE.Env), I k ρ → (∀ i (hi : i < l.length) ρ, I (k + i) ρ → ∃ ρ2, ((asg l[i] ρ).bind body) = some (.nx ρ2) ∧ I (k + i + 1) ρ2) → ∃ ρ', forD asg body l ρ = some (.nx ρ') ∧ I (k + l.length) ρ'
  | [], k, ρ, h, _ => ⟨ρ, rfl, h⟩
  | d :: l, k, ρ, h, g => by
    obtain ⟨ρ2, h1, h2⟩ := g 0 (by simp) ρ h
    obtain ⟨ρ', h3, h4⟩ := for_inv I l (k + 1) ρ2 h2 fun i hi ρ hI => by
      have := g (i + 1) (by simpa using hi) ρ (by rw [show k + (i + 1) = k + 1 + i by omega]; exact hI)
      rw [show k + 1 + i + 1 = k + (i + 1) + 1 by omega]
      simpa using this
    refine ⟨ρ', ?_, by rw [List.length_cons, show k + (l.length + 1) = k + 1 + l.length by omega]; exact h4⟩
    obtain ⟨ρ1, e1, e2⟩ := Option.bind_eq_some_iff.mp h1
    have e1 : asg d ρ = some ρ1 := e1
    rw [forD, e1, obS, e2]
    exact h3
/-- the same, where the list may be left early with an answer -/
theorem for_invR {asg : SG} {body : RE.Env → Option Res} (I : Nat → RE.Env → Prop) (R : Res → Prop) : ∀ (l : List D) (k : Nat) (ρ : RE.Env), I k ρ → (∀ i (hi : i < l.length) ρ, I (k + i) ρ → ∃ r, ((asg l[i] ρ).bind body) = some r ∧ ((∃ ρ2, r = .nx ρ2 ∧ I (k + i + 1) ρ2) ∨ ((∃ b v, r = .rt b v) ∧ R r))) → ∃ r, forD asg body l ρ = some r ∧ ((∃ ρ', r = .nx ρ' ∧ I (k + l.length) ρ') ∨ ((∃ b v, r = .rt b v) ∧ R r))
  | [], k, ρ, h, _ => ⟨_, rfl, .inl ⟨ρ, rfl, h⟩⟩
  | d :: l, k, ρ, h, g => by
    obtain ⟨r, h1, h2⟩ := g 0 (by simp) ρ h
    obtain ⟨ρ1, e1, e2⟩ := Option.bind_eq_some_iff.mp h1
    have e1 : asg d ρ = some ρ1 := e1
    rcases h2 with ⟨ρ2, rfl, h2⟩ | ⟨⟨b, v, rfl⟩, h2⟩
    · obtain ⟨r, h3, h4⟩ := for_invR I R l (k + 1) ρ2 h2 fun i hi ρ hI => by
        have := g (i + 1) (by simpa using hi) ρ (by rw [show k + (i + 1) = k + 1 + i by omega]; exact hI)
        rw [show k + 1 + i + 1 = k + (i + 1) + 1 by omega]
        simpa using this
      refine ⟨r, ?_, by rw [List.length_cons, show k + (l.length + 1) = k + 1 + l.length by omega]; exact h4⟩
      rw [forD, e1, obS, e2]
      exact h3
    · refine ⟨.rt b v, ?_, .inr ⟨⟨b, v, rfl⟩, h2⟩⟩
      rw [forD, e1, obS, e2]
      rfl
end RE
namespace RE
theorem eqv_tupC (a b : D) (l m : List D) : eqv (.tup (a :: l)) (.tup (b :: m)) = (eqv a b && eqvL l m) := by simp [eqv, eqvL, toP, toPs, PyData.eqv, PyData.eqvAll]
theorem eqvL_cons (a b : D) (l m : List D) : eqvL (a :: l) (b :: m) = (eqv a b && eqvL l m) := by simp [eqv, eqvL, toPs, PyData.eqvAll]
theorem eqvL_nil : eqvL [] [] = true := by simp [eqvL, toPs, PyData.eqvAll]
theorem eqv_int (i j : Int) : eqv (.int i) (.int j) = decide (i = j) := by
  simp [eqv, toP, PyData.eqv]
  first | done | (by_cases h : i = j <;> simp [h])
theorem pd_tup (n : Nat) (l : List D) : pd (n + 1) (.tup l) = l.all (pd n) := by simp [pd]
theorem pd_int (n : Nat) (i : Int) : pd n (.int i) = true := by cases n <;> simp [pd]
end RE
namespace RE
/-! things: plain trees with a bound on depth and on nodes -/
mutual
def nd : D → Nat
  | .tup xs => 1 + ndL xs
  | .lst xs => 1 + ndL xs
  | .non => 1
  | .bl _ => 1
  | .int _ => 1
  | .str _ => 1
  | .dic _ _ => 1
  | .scr _ => 1
  | .fn _ => 1
def ndL : List D → Nat
  | [] => 0
  | d :: ds => nd d + ndL ds
end
mutual
def paths : D → List (List Nat)
  | .tup xs => [] :: pathsL 0 xs
  | .lst xs => [] :: pathsL 0 xs
  | .non => [[]]
  | .bl _ => [[]]
  | .int _ => [[]]
  | .str _ => [[]]
  | .dic _ _ => [[]]
  | .scr _ => [[]]
  | .fn _ => [[]]
def pathsL : Nat → List D → List (List Nat)
  | _, [] => []
  | i, d :: ds => (paths d).map (i :: ·) ++ pathsL (i + 1) ds
end
mutual
theorem paths_len : ∀ d : D, (paths d).length = nd d
  | .tup xs => by simp only [paths, nd, List.length_cons, pathsL_len 0 xs]; omega
  | .lst xs => by simp only [paths, nd, List.length_cons, pathsL_len 0 xs]; omega
  | .non => by simp only [paths, nd, List.length_cons, List.length_nil]
  | .bl _ => by simp only [paths, nd, List.length_cons, List.length_nil]
  | .int _ => by simp only [paths, nd, List.length_cons, List.length_nil]
  | .str _ => by simp only [paths, nd, List.length_cons, List.length_nil]
  | .dic _ _ => by simp only [paths, nd, List.length_cons, List.length_nil]
  | .scr _ => by simp only [paths, nd, List.length_cons, List.length_nil]
  | .fn _ => by simp only [paths, nd, List.length_cons, List.length_nil]
theorem pathsL_len : ∀ (i : Nat) (ds : List D), (pathsL i ds).length = ndL ds
  | _, [] => by simp only [pathsL, ndL, List.length_nil]
  | i, d :: ds => by simp only [pathsL, ndL, List.length_append, List.length_map, paths_len d, pathsL_len (i + 1) ds]
end
theorem nd_pos (d : D) : 1 ≤ nd d := by cases d <;> simp only [nd] <;> omega
theorem ndL_app : ∀ a b : List D, ndL (a ++ b) = ndL a + ndL b
  | [], b => by simp only [List.nil_append, ndL]; omega
  | d :: a, b => by simp only [List.cons_append, ndL, ndL_app a b]; omega
theorem ndL_rev : ∀ a : List D, ndL a.reverse = ndL a
  | [] => rfl
  | d :: a => by simp only [List.reverse_cons, ndL_app, ndL, ndL_rev a]; omega
theorem ndL_len : ∀ a : List D, a.length ≤ ndL a
  | [] => by simp
  | d :: a => by have := ndL_len a; have := nd_pos d; simp only [List.length_cons, ndL]; omega
theorem split_at {α : Type} {l : List α} {i : Nat} (h : i < l.length) : l = l.take i ++ l[i] :: l.drop (i + 1) := by
  rw [← List.drop_eq_getElem_cons h, List.take_append_drop]
theorem ndL_at {l : List D} {i : Nat} (h : i < l.length) : ndL l = ndL (l.take i) + nd l[i] + ndL (l.drop (i + 1)) := by
  conv => lhs; rw [split_at h]
  rw [ndL_app]; simp only [ndL]; omega
theorem ndL_set {l : List D} {i : Nat} (h : i < l.length) (v : D) : ndL (l.set i v) + nd l[i] = ndL l + nd v := by
  rw [ndL_at h, List.set_eq_take_append_cons_drop, if_pos h, ndL_app]
  simp only [ndL]; omega
theorem ndL_mem {l : List D} {d : D} (h : d ∈ l) : nd d ≤ ndL l := by
  obtain ⟨i, hi, rfl⟩ := List.getElem_of_mem h
  rw [ndL_at hi]; omega
theorem ndL_take (l : List D) (i : Nat) : ndL (l.take i) + ndL (l.drop i) = ndL l := by
  rw [← ndL_app, List.take_append_drop]
theorem mem_pathsL : ∀ {k : Nat} {l : List D} {p : List Nat}, p ∈ pathsL k l → ∃ (j : Nat) (q : List Nat) (h : j < l.length), p = (k + j) :: q ∧ q ∈ paths l[j]
  | k, [], p, h => by simp only [pathsL, List.not_mem_nil] at h
  | k, d :: l, p, h => by
    simp only [pathsL, List.mem_append, List.mem_map] at h
    rcases h with ⟨q, h1, rfl⟩ | h
    · exact ⟨0, q, by simp, rfl, h1⟩
    · obtain ⟨j, q, hj, e, hq⟩ := mem_pathsL h
      exact ⟨j + 1, q, by simpa using hj, by rw [e]; congr 1; omega, by simpa using hq⟩
/-! depth -/
theorem pd_lst (n : Nat) (l : List D) : pd (n + 1) (.lst l) = l.all (pd n) := by simp [pd]
theorem pd_up : ∀ {m n : Nat} {d : D}, m ≤ n → pd m d = true → pd n d = true
  | m, n, .non, _, _ => by cases n <;> rfl
  | m, n, .bl _, _, _ => by cases n <;> rfl
  | m, n, .int _, _, _ => by cases n <;> rfl
  | m, n, .str _, _, _ => by cases n <;> rfl
  | 0, n, .tup _, _, h => by simp [pd] at h
  | 0, n, .lst _, _, h => by simp [pd] at h
  | m + 1, 0, _, h, _ => by omega
  | m + 1, n + 1, .tup l, h, g => by
    rw [pd_tup, List.all_eq_true] at *
    exact fun x hx => pd_up (by omega) (g x hx)
  | m + 1, n + 1, .lst l, h, g => by
    rw [pd_lst, List.all_eq_true] at *
    exact fun x hx => pd_up (by omega) (g x hx)
  | m, n, .dic _ _, _, h => by cases m <;> simp [pd] at h
  | m, n, .scr _, _, h => by cases m <;> simp [pd] at h
  | m, n, .fn _, _, h => by cases m <;> simp [pd] at h
/-- plain, at most so deep, its texts short -/
def pq : Nat → D → Bool
  | _, .non => true
  | _, .bl _ => true
  | _, .int _ => true
  | _, .str s => decide (s.length ≤ 100)
  | n + 1, .tup xs => xs.all (pq n)
  | n + 1, .lst xs => xs.all (pq n)
  | _, _ => false
theorem pq_tup (n : Nat) (l : List D) : pq (n + 1) (.tup l) = l.all (pq n) := by simp [pq]
theorem pq_lst (n : Nat) (l : List D) : pq (n + 1) (.lst l) = l.all (pq n) := by simp [pq]
theorem pq_int (n : Nat) (i : Int) : pq n (.int i) = true := by cases n <;> simp [pq]
theorem pq_str (n : Nat) (s : Str) : pq n (.str s) = decide (s.length ≤ 100) := by cases n <;> simp [pq]
theorem pq_pd : ∀ {n : Nat} {d : D}, pq n d = true → pd n d = true
  | n, .non, _ => by cases n <;> rfl
  | n, .bl _, _ => by cases n <;> rfl
  | n, .int _, _ => by cases n <;> rfl
  | n, .str _, _ => by cases n <;> rfl
  | 0, .tup _, h => by simp [pq] at h
  | 0, .lst _, h => by simp [pq] at h
  | n + 1, .tup l, h => by
    rw [pq_tup, List.all_eq_true] at h
    rw [pd_tup, List.all_eq_true]
    exact fun x hx => pq_pd (h x hx)
  | n + 1, .lst l, h => by
    rw [pq_lst, List.all_eq_true] at h
    rw [pd_lst, List.all_eq_true]
    exact fun x hx => pq_pd (h x hx)
  | n, .dic _ _, h => by cases n <;> simp [pq] at h
  | n, .scr _, h => by cases n <;> simp [pq] at h
  | n, .fn _, h => by cases n <;> simp [pq] at h
theorem pq_up : ∀ {m n : Nat} {d : D}, m ≤ n → pq m d = true → pq n d = true
  | m, n, .non, _, _ => by cases n <;> rfl
  | m, n, .bl _, _, _ => by cases n <;> rfl
  | m, n, .int _, _, _ => by cases n <;> rfl
  | m, n, .str _, _, h => by rw [pq_str] at *; exact h
  | 0, n, .tup _, _, h => by simp [pq] at h
  | 0, n, .lst _, _, h => by simp [pq] at h
  | m + 1, 0, _, h, _ => by omega
  | m + 1, n + 1, .tup l, h, g => by
    rw [pq_tup, List.all_eq_true] at *
    exact fun x hx => pq_up (by omega) (g x hx)
  | m + 1, n + 1, .lst l, h, g => by
    rw [pq_lst, List.all_eq_true] at *
    exact fun x hx => pq_up (by omega) (g x hx)
  | m, n, .dic _ _, _, h => by cases m <;> simp [pq] at h
  | m, n, .scr _, _, h => by cases m <;> simp [pq] at h
  | m, n, .fn _, _, h => by cases m <;> simp [pq] at h
structure Sm (m k : Nat) (t : D) : Prop where
  d : pq m t = true
  n : nd t ≤ k
theorem Sm.pd {m k : Nat} {t : D} (h : Sm m k t) : pd m t = true := pq_pd h.d
theorem Sm.up {m k m' k' : Nat} {d : D} (h : Sm m k d) (hm : m ≤ m' := by omega) (hk : k ≤ k' := by omega) : Sm m' k' d := ⟨pq_up hm h.d, Nat.le_trans h.n hk⟩
theorem Sm.tup {m k : Nat} {l : List D} (h : ∀ d ∈ l, pq m d = true) (hk : ndL l + 1 ≤ k) : Sm (m + 1) k (.tup l) := ⟨by rw [pq_tup, List.all_eq_true]; exact h, by simp only [nd]; omega⟩
theorem Sm.lst {m k : Nat} {l : List D} (h : ∀ d ∈ l, pq m d = true) (hk : ndL l + 1 ≤ k) : Sm (m + 1) k (.lst l) := ⟨by rw [pq_lst, List.all_eq_true]; exact h, by simp only [nd]; omega⟩
theorem Sm.non (m : Nat) {k : Nat} (h : 1 ≤ k := by omega) : Sm m k .non := ⟨by cases m <;> rfl, h⟩
theorem Sm.bl (m : Nat) {k : Nat} (b : Bool) (h : 1 ≤ k := by omega) : Sm m k (.bl b) := ⟨by cases m <;> rfl, h⟩
theorem Sm.int (m : Nat) {k : Nat} (b : Int) (h : 1 ≤ k := by omega) : Sm m k (.int b) := ⟨by cases m <;> rfl, h⟩
theorem Sm.str (m : Nat) {k : Nat} (b : Str) (hb : b.length ≤ 100 := by decide) (h : 1 ≤ k := by omega) : Sm m k (.str b) := ⟨by rw [pq_str]; exact decide_eq_true hb, h⟩
def natsD (p : List Nat) : List D := p.map natD
def pathD (p : List Nat) : D := .tup (natsD p)
theorem pd_natsD (n : Nat) (p : List Nat) : (natsD p).all (pd n) = true := by
  rw [List.all_eq_true]
  intro x hx
  obtain ⟨i, _, rfl⟩ := List.mem_map.mp hx
  exact pd_int _ _
theorem pd_pathD (p : List Nat) : pd 64 (pathD p) = true := by unfold pathD; rw [pd_tup 63]; exact pd_natsD _ _
/-- is it the empty path? -/
theorem eq_path0 (p : List Nat) : eqD (pathD p) (.tup []) = some (.bl (decide (p = []))) := by
  unfold eqD pd2
  rw [pd_pathD]
  cases p with
  | nil => rfl
  | cons a p =>
    have : eqv (pathD (a :: p)) (.tup []) = false := by simp [pathD, natsD, eqv, toP, toPs, PyData.eqv, PyData.eqvAll]
    rw [this]; rfl
theorem paths_short : ∀ {m : Nat} {d : D} {p : List Nat}, pd m d = true → p ∈ paths d → p.length ≤ m
  | m, .non, p, _, h => by simp only [paths, List.mem_singleton] at h; subst h; simp
  | m, .bl _, p, _, h => by simp only [paths, List.mem_singleton] at h; subst h; simp
  | m, .int _, p, _, h => by simp only [paths, List.mem_singleton] at h; subst h; simp
  | m, .str _, p, _, h => by simp only [paths, List.mem_singleton] at h; subst h; simp
  | m, .dic _ _, p, _, h => by simp only [paths, List.mem_singleton] at h; subst h; simp
  | m, .scr _, p, _, h => by simp only [paths, List.mem_singleton] at h; subst h; simp
  | m, .fn _, p, _, h => by simp only [paths, List.mem_singleton] at h; subst h; simp
  | 0, .tup _, p, h, _ => by simp [pd] at h
  | 0, .lst _, p, h, _ => by simp [pd] at h
  | m + 1, .tup l, p, h, g => by
    simp only [paths, List.mem_cons] at g
    rcases g with rfl | g
    · simp
    · obtain ⟨j, q, hj, rfl, hq⟩ := mem_pathsL g
      rw [pd_tup, List.all_eq_true] at h
      have := paths_short (h _ (List.getElem_mem hj)) hq
      simp only [List.length_cons]; omega
  | m + 1, .lst l, p, h, g => by
    simp only [paths, List.mem_cons] at g
    rcases g with rfl | g
    · simp
    · obtain ⟨j, q, hj, rfl, hq⟩ := mem_pathsL g
      rw [pd_lst, List.all_eq_true] at h
      have := paths_short (h _ (List.getElem_mem hj)) hq
      simp only [List.length_cons]; omega
theorem add_path (i : Nat) (p : List Nat) (h : p.length ≤ 64) : addD (.tup [natD i]) (pathD p) = some (pathD (i :: p)) := by
  unfold pathD
  rw [add_tup (by simp only [natsD, List.length_map, List.length_cons, List.length_nil]; omega)]
  rfl
end RE
namespace L
noncomputable def plB : SS := sSeq (sAsg (cB addD (cV 1) (cLc [4] (cWalk (cFn "_law_places" (cCons (cV 3) (cNil)))) (gN 4) (cTrue) (cB addD (cTup (cCons (cV 2) (cNil))) (cV 4)))) (gN 1)) (sNil)
theorem places_eq : b__law_places = sSeq (sAsg (cLst (cCons (cTup (cNil)) (cNil))) (gN 1)) (sSeq (sIf (cTr (cU (isiD ["list", "tuple"]) (cV 0))) (sSeq (sFor (cEnum (cV 0)) (gT (gsCons (gN 2) (gsCons (gN 3) (gsNil)))) plB) (sNil)) (sNil)) (sSeq (sRet (cV 1)) (sNil))) := rfl
theorem places_step (F : Fn) (t : D) (i : Nat) (d : D) (found : List D) (x4 : Option D) (hF : F "_law_places" [d] = some (.lst ((paths d).map pathD))) (hs : ∀ p ∈ paths d, p.length ≤ 64) (hl : found.length + nd d ≤ 100000) :
    plB F [some t, some (.lst found), some (natD i), some d, x4] = some (.nx [some t, some (.lst (found ++ ((paths d).map fun p => pathD (i :: p)))), some (natD i), some d, x4]) := by
  have e : lcAll (lcOne (gN 4) cTrue (cB addD (cTup (cCons (cV 2) cNil)) (cV 4)) F [some t, some (.lst found), some (natD i), some d, none]) ((paths d).map pathD) = some ((paths d).map fun p => pathD (i :: p)) := by
    refine lc_map fun p hp => ?_
    simp only [s_sSeq, s_sNil, s_sRet, s_sRetT, s_sIf, s_sAsg, s_sPar, s_sSetM, s_cND, s_cC, s_cB, s_cU, s_cTup, s_cLst, s_cNil, s_cCons, s_cCall, s_cFn, s_cIx, s_cAnd, s_cOr, s_cNot, s_cIf, s_cTr, s_cBT, s_cAndT, s_cOrT, s_cNotT, s_cCh, s_cChT, s_cSl, s_sFor, s_cWalk, s_cLc, s_lcOne, s_cTrue, s_sApp, s_gN, s_gT, s_gsNil, s_gsCons, s_cV0, s_cVs, s_finR, s_finN, s_boolD, s_truB, s_setAll0, s_setAll1, s_op1, s_op2, s_abs, s_addI, s_subI, eqI, neI, ltI, gtI, leI, geI, mkTup1, mkTup2, mkTup3, idx_t0, idx_t1, idx_t2, obS, omS, List.set_cons_zero, List.set_cons_succ, s_cNone, s_cPart, s_intD, s_cRng1, s_walkL, s_walkT, s_lenT, s_lenL, s_lenS, s_slT, s_slL, if_true, if_false, decide_true, decide_false, Bool.not_true, Bool.not_false, Bool.and_true, Bool.and_false, Bool.true_and, Bool.false_and, Bool.false_eq_true, decide_eq_true_eq, s_cEnum, s_sPut, s_revL, s_revT, s_listL, s_listT, s_tupleL, s_tupleT, s_isDicLst, s_isDicTup, s_isDicInt, wipeE_nil, wipeE_cons]
    rw [add_path i p (hs p hp)]
    rfl
  have e2 : mkLst ((paths d).map fun p => pathD (i :: p)) = some (.lst ((paths d).map fun p => pathD (i :: p))) := mkLst_ev (by rw [List.length_map, paths_len]; omega)
  have e3 : addD (.lst found) (.lst ((paths d).map fun p => pathD (i :: p))) = _ := add_lst (by rw [List.length_map, paths_len]; omega)
  unfold plB
  rw [s_sSeq, s_sAsg, s_cB, s_cLc, s_cWalk, s_cFn]
  simp only [s_cCons, s_cNil, s_cV0, s_cVs, obS, hF, s_walkL, wipeE_cons, wipeE_nil, List.set_cons_succ, List.set_cons_zero]
  rw [e, obS, e2, obS, e3]
  rfl
theorem places_loop (F : Fn) (t : D) (x4 : Option D) : ∀ (xs : List D) (i : Nat) (found : List D) (x2 x3 : Option D), (∀ d ∈ xs, F "_law_places" [d] = some (.lst ((paths d).map pathD)) ∧ ∀ p ∈ paths d, p.length ≤ 64) → found.length + ndL xs ≤ 100000 →
    ∃ y2 y3, forD (gT (gsCons (gN 2) (gsCons (gN 3) (gsNil)))) (plB F) (enumL i xs) [some t, some (.lst found), x2, x3, x4] = some (.nx [some t, some (.lst (found ++ (pathsL i xs).map pathD)), y2, y3, x4])
  | [], i, found, x2, x3, _, _ => ⟨x2, x3, by simp [enumL, forD, pathsL]⟩
  | d :: xs, i, found, x2, x3, h, hl => by
    have h0 := h d List.mem_cons_self
    simp only [ndL] at hl
    obtain ⟨y2, y3, e⟩ := places_loop F t x4 xs (i + 1) (found ++ ((paths d).map fun p => pathD (i :: p))) (some (natD i)) (some d) (fun z hz => h z (List.mem_cons_of_mem _ hz)) (by rw [List.length_append, List.length_map, paths_len]; omega)
    refine ⟨y2, y3, ?_⟩
    rw [enumL, forD]
    have a : gT (gsCons (gN 2) (gsCons (gN 3) (gsNil))) (.tup [.int (i : Nat), d]) [some t, some (.lst found), x2, x3, x4] = some [some t, some (.lst found), some (natD i), some d, x4] := rfl
    rw [a, obS, places_step F t i d found x4 h0.1 h0.2 (by omega)]
    simp only [obS]
    rw [e]
    simp only [pathsL, List.map_append, List.map_map, List.append_assoc]
    rfl
theorem places_ev : ∀ (m n : Nat) (t : D), pd m t = true → m ≤ 60 → nd t ≤ 50000 → lvl (DT rows) (n + m + 1) "_law_places" [t] = some (.lst ((paths t).map pathD)) := by
  intro m
  have base : ∀ (n : Nat) (t : D), isiD ["list", "tuple"] t = some (.bl false) → paths t = [[]] → lvl (DT rows) (n + 1) "_law_places" [t] = some (.lst ((paths t).map pathD)) := by
    intro n t h h2
    rw [v__law_places, places_eq, h2]
    have m0 : mkTup [] = some (.tup []) := rfl
    have m1 : mkLst [.tup []] = some (.lst [.tup []]) := rfl
    simp only [s_sSeq, s_sNil, s_sRet, s_sRetT, s_sIf, s_sAsg, s_sPar, s_sSetM, s_cND, s_cC, s_cB, s_cU, s_cTup, s_cLst, s_cNil, s_cCons, s_cCall, s_cFn, s_cIx, s_cAnd, s_cOr, s_cNot, s_cIf, s_cTr, s_cBT, s_cAndT, s_cOrT, s_cNotT, s_cCh, s_cChT, s_cSl, s_sFor, s_cWalk, s_cLc, s_lcOne, s_cTrue, s_sApp, s_gN, s_gT, s_gsNil, s_gsCons, s_cV0, s_cVs, s_finR, s_finN, s_boolD, s_truB, s_setAll0, s_setAll1, s_op1, s_op2, s_abs, s_addI, s_subI, eqI, neI, ltI, gtI, leI, geI, mkTup1, mkTup2, mkTup3, idx_t0, idx_t1, idx_t2, obS, omS, List.set_cons_zero, List.set_cons_succ, s_cNone, s_cPart, s_intD, s_cRng1, s_walkL, s_walkT, s_lenT, s_lenL, s_lenS, s_slT, s_slL, if_true, if_false, decide_true, decide_false, Bool.not_true, Bool.not_false, Bool.and_true, Bool.and_false, Bool.true_and, Bool.false_and, Bool.false_eq_true, decide_eq_true_eq, s_cEnum, s_sPut, s_revL, s_revT, s_listL, s_listT, s_tupleL, s_tupleT, s_isDicLst, s_isDicTup, s_isDicInt, wipeE_nil, wipeE_cons, h, m0, m1]
    rfl
  have box : ∀ (n : Nat) (t : D) (xs : List D), isiD ["list", "tuple"] t = some (.bl true) → walkL t = some xs → paths t = [] :: pathsL 0 xs → ndL xs + 1 ≤ 50000 → (∀ d ∈ xs, lvl (DT rows) n "_law_places" [d] = some (.lst ((paths d).map pathD)) ∧ ∀ p ∈ paths d, p.length ≤ 64) → lvl (DT rows) (n + 1) "_law_places" [t] = some (.lst ((paths t).map pathD)) := by
    intro n t xs h hw h2 hn hF
    obtain ⟨y2, y3, e⟩ := places_loop (lvl (DT rows) n) t none xs 0 [.tup []] none none hF (by simp only [List.length_cons, List.length_nil]; omega)
    rw [v__law_places, places_eq, h2]
    generalize lvl (DT rows) n = F at *
    have m0 : mkTup [] = some (.tup []) := rfl
    have m1 : mkLst [.tup []] = some (.lst [.tup []]) := rfl
    have m2 : sFor (cEnum (cV 0)) (gT (gsCons (gN 2) (gsCons (gN 3) (gsNil)))) plB F [some t, some (.lst [.tup []]), none, none, none] = some (.nx [some t, some (.lst ([.tup []] ++ (pathsL 0 xs).map pathD)), y2, y3, none]) := by
      rw [s_sFor, s_cEnum, s_cV0, obS, hw, omS, obS]
      exact e
    rw [s_sSeq, s_sAsg]
    simp only [s_cLst, s_cTup, s_cCons, s_cNil, obS, m0, m1, s_gN, omS, List.set_cons_zero, List.set_cons_succ]
    rw [s_sSeq, s_sIf, s_cTr, s_cU]
    simp only [s_cV0, obS, h, s_truB, if_true]
    rw [s_sSeq, m2]
    rfl
  induction m with
  | zero =>
    intro n t h _ _
    cases t <;> first | exact base n _ rfl (by simp only [paths]) | (simp [pd] at h; done)
  | succ m ih =>
    intro n t h hm hn
    cases t with
    | tup xs =>
      rw [pd_tup, List.all_eq_true] at h
      simp only [nd] at hn
      refine box (n + (m + 1)) _ xs rfl rfl (by simp only [paths]) (by omega) fun d hd => ⟨?_, fun p hp => ?_⟩
      · exact ih n d (h d hd) (by omega) (by have := ndL_mem hd; omega)
      · have := paths_short (h d hd) hp; omega
    | lst xs =>
      rw [pd_lst, List.all_eq_true] at h
      simp only [nd] at hn
      refine box (n + (m + 1)) _ xs rfl rfl (by simp only [paths]) (by omega) fun d hd => ⟨?_, fun p hp => ?_⟩
      · exact ih n d (h d hd) (by omega) (by have := ndL_mem hd; omega)
      · have := paths_short (h d hd) hp; omega
    | non => exact base (n + (m + 1)) _ rfl (by simp only [paths])
    | bl b => exact base (n + (m + 1)) _ rfl (by simp only [paths])
    | int b => exact base (n + (m + 1)) _ rfl (by simp only [paths])
    | str b => exact base (n + (m + 1)) _ rfl (by simp only [paths])
    | dic _ _ => simp [pd] at h
    | scr _ => simp [pd] at h
    | fn _ => simp [pd] at h
end L
end
section
open PySem PySem.Spec PyProof.Rows L2 RE
namespace RE
def oth16 (t : D) : List D := [.non, .bl true, .bl false, .int 7, .int (0 - 1), .int (10 ^ 39), .str "0", .str "", .tup [], .lst [], .tup [t], .lst [t], .tup [.int 0], .tup [.int 1, .int 0], .int 1, .int 0]
theorem oth16_sm {m k : Nat} {t : D} (h : Sm m k t) : ∀ x ∈ oth16 t, Sm (m + 1) (k + 2) x := by
  intro x hx
  have k1 : 1 ≤ k := Nat.le_trans (nd_pos t) h.n
  simp only [oth16, List.mem_cons, List.not_mem_nil, or_false] at hx
  rcases hx with rfl | rfl | rfl | rfl | rfl | rfl | rfl | rfl | rfl | rfl | rfl | rfl | rfl | rfl | rfl | rfl
  · exact .non _
  · exact .bl _ _
  · exact .bl _ _
  · exact .int _ _
  · exact .int _ _
  · exact .int _ _
  · exact .str _ _
  · exact .str _ _
  · exact .tup (by simp) (by simp only [ndL]; omega)
  · exact .lst (by simp) (by simp only [ndL]; omega)
  · exact .tup (by simpa using h.d) (by have := h.n; simp only [ndL]; omega)
  · exact .lst (by simpa using h.d) (by have := h.n; simp only [ndL]; omega)
  · exact .tup (by simp [pq_int]) (by simp only [ndL, nd]; omega)
  · exact .tup (by simp [pq_int]) (by simp only [ndL, nd]; omega)
  · exact .int _ _
  · exact .int _ _
end RE
namespace L
theorem other_ev (n m k : Nat) (t : D) (ds : List Nat) (h : Sm m k t) (hl : 2 ≤ ds.length) : ∃ r, lvl (DT rows) (n + 1) "_law_other" [t, .lst (ds.map natD)] = some r ∧ Sm (m + 1) (k + 2) r := by
  have i1 : idxD (.lst (ds.map natD)) (.int 1) = some (natD ds[1]) := idx_nat (i := 1) (by omega)
  have pk : ∀ (xs : List D), xs ≠ [] → (∀ x ∈ xs, Sm (m + 1) (k + 2) x) → ∃ y r, modD (natD ds[1]) (.int (xs.length : Int)) = some y ∧ idxD (.lst xs) y = some r ∧ Sm (m + 1) (k + 2) r := by
    intro xs hx hs
    have hp : 0 < xs.length := List.length_pos_iff.mpr hx
    have hj := Nat.mod_lt ds[1] hp
    exact ⟨_, _, modN _ _ (by omega), idx_lst hj, hs _ (List.getElem_mem _)⟩
  have k1 : 1 ≤ k := Nat.le_trans (nd_pos t) h.n
  have ho := oth16_sm h
  have pw : powD (.int 10) (.int 39) = some (.int (10 ^ 39)) := by simp [powD]
  have t0 : mkTup [] = some (.tup []) := rfl
  have l0 : mkLst [] = some (.lst []) := rfl
  have l1 : mkLst [t] = some (.lst [t]) := rfl
  have a1 : mkLst [.non, .bl true, .bl false, .int 7, .int (0 - 1), .int (10 ^ 39), .str "0", .str "", .tup [], .lst [], .tup [t], .lst [t], .tup [.int 0], .tup [.int 1, .int 0], .int 1, .int 0] = some (.lst (oth16 t)) := rfl
  have o16 : (oth16 t).length = 16 := rfl
  rw [v__law_other]
  by_cases c1 : ∃ i, t = .int i
  · obtain ⟨i, rfl⟩ := c1
    have e1 : isiD ["int"] (.int i) = some (.bl true) := rfl
    have e2 : isiD ["bool"] (.int i) = some (.bl false) := rfl
    have e3 : isiD ["list", "tuple"] (.int i) = some (.bl false) := rfl
    have e4 : bool1D (.int i) = some (.bl (i != 0)) := rfl
    have a2 : mkLst [.int (i + 1), .int (i - 1), .bl (i != 0), .int (i + 1), .int (i - 1), .bl (i != 0)] = some (.lst [.int (i + 1), .int (i - 1), .bl (i != 0), .int (i + 1), .int (i - 1), .bl (i != 0)]) := rfl
    have a3 := add_lst (a := [.int (i + 1), .int (i - 1), .bl (i != 0), .int (i + 1), .int (i - 1), .bl (i != 0)]) (b := oth16 (.int i)) (by simp only [List.length_cons, List.length_nil, o16]; omega)
    obtain ⟨y, r, h1, h2, h3⟩ := pk ([.int (i + 1), .int (i - 1), .bl (i != 0), .int (i + 1), .int (i - 1), .bl (i != 0)] ++ oth16 (.int i)) (by simp) (by
      intro x hx
      rcases List.mem_append.mp hx with hx | hx
      · simp only [List.mem_cons, List.not_mem_nil, or_false] at hx
        rcases hx with rfl | rfl | rfl | rfl | rfl | rfl <;> first | exact .int _ _ | exact .bl _ _
      · exact ho x hx)
    refine ⟨r, ?_, h3⟩
    generalize [D.int (i + 1), .int (i - 1), .bl (i != 0), .int (i + 1), .int (i - 1), .bl (i != 0)] ++ oth16 (.int i) = xs at *
    simp only [s_sSeq, s_sNil, s_sRet, s_sRetT, s_sIf, s_sAsg, s_sPar, s_sSetM, s_cND, s_cC, s_cB, s_cU, s_cTup, s_cLst, s_cNil, s_cCons, s_cCall, s_cFn, s_cIx, s_cAnd, s_cOr, s_cNot, s_cIf, s_cTr, s_cBT, s_cAndT, s_cOrT, s_cNotT, s_cCh, s_cChT, s_cSl, s_sFor, s_cWalk, s_cLc, s_lcOne, s_cTrue, s_sApp, s_gN, s_gT, s_gsNil, s_gsCons, s_cV0, s_cVs, s_finR, s_finN, s_boolD, s_truB, s_setAll0, s_setAll1, s_op1, s_op2, s_abs, s_addI, s_subI, eqI, neI, ltI, gtI, leI, geI, mkTup1, mkTup2, mkTup3, idx_t0, idx_t1, idx_t2, obS, omS, List.set_cons_zero, List.set_cons_succ, s_cNone, s_cPart, s_intD, s_cRng1, s_walkL, s_walkT, s_lenT, s_lenL, s_lenS, s_slT, s_slL, if_true, if_false, decide_true, decide_false, Bool.not_true, Bool.not_false, Bool.and_true, Bool.and_false, Bool.true_and, Bool.false_and, Bool.false_eq_true, decide_eq_true_eq, s_cEnum, s_sPut, s_revL, s_revT, s_listL, s_listT, s_tupleL, s_tupleT, s_isDicLst, s_isDicTup, s_isDicInt, wipeE_nil, wipeE_cons, b__law_other, pw, t0, l0, l1, e1, e2, e3, e4, a1, a2, a3, i1, h1, h2]
    try rfl
  by_cases c2 : ∃ xs, listDD t = some (.lst xs) ∧ tupleD t = some (.tup xs) ∧ (revD t = some (.lst xs.reverse) ∨ revD t = some (.tup xs.reverse)) ∧ isiD ["list", "tuple"] t = some (.bl true) ∧ isiD ["int"] t = some (.bl false) ∧ nd t = 1 + ndL xs ∧ 1 ≤ m ∧ ∀ x ∈ xs, pq (m - 1) x = true
  · obtain ⟨xs, e1, e2, e3, e4, e5, e6, e7, e8⟩ := c2
    have e3 : ∃ v, revD t = some v ∧ tupleD v = some (.tup xs.reverse) := by
      rcases e3 with e | e <;> exact ⟨_, e, rfl⟩
    obtain ⟨v, e3, e9⟩ := e3
    have a2 : mkLst [.lst xs, .tup xs, .tup xs.reverse, .lst xs] = some (.lst [.lst xs, .tup xs, .tup xs.reverse, .lst xs]) := rfl
    have a3 := add_lst (a := [.lst xs, .tup xs, .tup xs.reverse, .lst xs]) (b := oth16 t) (by simp only [List.length_cons, List.length_nil, o16]; omega)
    have hn := h.n
    have g1 : Sm (m + 1) (k + 2) (.lst xs) := .lst (fun d hd => pq_up (by omega) (e8 d hd)) (by omega)
    have g2 : Sm (m + 1) (k + 2) (.tup xs) := .tup (fun d hd => pq_up (by omega) (e8 d hd)) (by omega)
    have g3 : Sm (m + 1) (k + 2) (.tup xs.reverse) := .tup (fun d hd => pq_up (by omega) (e8 d (List.mem_reverse.mp hd))) (by rw [ndL_rev]; omega)
    obtain ⟨y, r, h1, h2, h3⟩ := pk ([.lst xs, .tup xs, .tup xs.reverse, .lst xs] ++ oth16 t) (by simp) (by
      intro x hx
      rcases List.mem_append.mp hx with hx | hx
      · simp only [List.mem_cons, List.not_mem_nil, or_false] at hx
        rcases hx with rfl | rfl | rfl | rfl <;> assumption
      · exact ho x hx)
    refine ⟨r, ?_, h3⟩
    generalize [D.lst xs, .tup xs, .tup xs.reverse, .lst xs] ++ oth16 t = zs at *
    simp only [s_sSeq, s_sNil, s_sRet, s_sRetT, s_sIf, s_sAsg, s_sPar, s_sSetM, s_cND, s_cC, s_cB, s_cU, s_cTup, s_cLst, s_cNil, s_cCons, s_cCall, s_cFn, s_cIx, s_cAnd, s_cOr, s_cNot, s_cIf, s_cTr, s_cBT, s_cAndT, s_cOrT, s_cNotT, s_cCh, s_cChT, s_cSl, s_sFor, s_cWalk, s_cLc, s_lcOne, s_cTrue, s_sApp, s_gN, s_gT, s_gsNil, s_gsCons, s_cV0, s_cVs, s_finR, s_finN, s_boolD, s_truB, s_setAll0, s_setAll1, s_op1, s_op2, s_abs, s_addI, s_subI, eqI, neI, ltI, gtI, leI, geI, mkTup1, mkTup2, mkTup3, idx_t0, idx_t1, idx_t2, obS, omS, List.set_cons_zero, List.set_cons_succ, s_cNone, s_cPart, s_intD, s_cRng1, s_walkL, s_walkT, s_lenT, s_lenL, s_lenS, s_slT, s_slL, if_true, if_false, decide_true, decide_false, Bool.not_true, Bool.not_false, Bool.and_true, Bool.and_false, Bool.true_and, Bool.false_and, Bool.false_eq_true, decide_eq_true_eq, s_cEnum, s_sPut, s_revL, s_revT, s_listL, s_listT, s_tupleL, s_tupleT, s_isDicLst, s_isDicTup, s_isDicInt, wipeE_nil, wipeE_cons, b__law_other, pw, t0, l0, l1, e1, e2, e3, e4, e5, e9, a1, a2, a3, i1, h1, h2]
    try rfl
  · have hs : (isiD ["int"] t = some (.bl false) ∨ isiD ["int"] t = some (.bl true) ∧ isiD ["bool"] t = some (.bl true)) ∧ isiD ["list", "tuple"] t = some (.bl false) := by
      have hd := h.d
      cases t with
      | int i => exact absurd ⟨i, rfl⟩ c1
      | tup xs =>
        cases m with
        | zero => simp [pq] at hd
        | succ m =>
          rw [pq_tup, List.all_eq_true] at hd
          exact absurd ⟨xs, rfl, rfl, .inr rfl, rfl, rfl, by simp only [nd], by omega, hd⟩ c2
      | lst xs =>
        cases m with
        | zero => simp [pq] at hd
        | succ m =>
          rw [pq_lst, List.all_eq_true] at hd
          exact absurd ⟨xs, rfl, rfl, .inl rfl, rfl, rfl, by simp only [nd], by omega, hd⟩ c2
      | non => exact ⟨.inl rfl, rfl⟩
      | bl b => exact ⟨.inr ⟨rfl, rfl⟩, rfl⟩
      | str s => exact ⟨.inl rfl, rfl⟩
      | dic _ _ => cases m <;> simp [pq] at hd
      | scr _ => cases m <;> simp [pq] at hd
      | fn _ => cases m <;> simp [pq] at hd
    obtain ⟨hs, e2⟩ := hs
    obtain ⟨y, r, h1, h2, h3⟩ := pk (oth16 t) (by simp [oth16]) ho
    refine ⟨r, ?_, h3⟩
    rcases hs with e1 | ⟨e1, e3⟩
    · generalize oth16 t = zs at *
      simp only [s_sSeq, s_sNil, s_sRet, s_sRetT, s_sIf, s_sAsg, s_sPar, s_sSetM, s_cND, s_cC, s_cB, s_cU, s_cTup, s_cLst, s_cNil, s_cCons, s_cCall, s_cFn, s_cIx, s_cAnd, s_cOr, s_cNot, s_cIf, s_cTr, s_cBT, s_cAndT, s_cOrT, s_cNotT, s_cCh, s_cChT, s_cSl, s_sFor, s_cWalk, s_cLc, s_lcOne, s_cTrue, s_sApp, s_gN, s_gT, s_gsNil, s_gsCons, s_cV0, s_cVs, s_finR, s_finN, s_boolD, s_truB, s_setAll0, s_setAll1, s_op1, s_op2, s_abs, s_addI, s_subI, eqI, neI, ltI, gtI, leI, geI, mkTup1, mkTup2, mkTup3, idx_t0, idx_t1, idx_t2, obS, omS, List.set_cons_zero, List.set_cons_succ, s_cNone, s_cPart, s_intD, s_cRng1, s_walkL, s_walkT, s_lenT, s_lenL, s_lenS, s_slT, s_slL, if_true, if_false, decide_true, decide_false, Bool.not_true, Bool.not_false, Bool.and_true, Bool.and_false, Bool.true_and, Bool.false_and, Bool.false_eq_true, decide_eq_true_eq, s_cEnum, s_sPut, s_revL, s_revT, s_listL, s_listT, s_tupleL, s_tupleT, s_isDicLst, s_isDicTup, s_isDicInt, wipeE_nil, wipeE_cons, b__law_other, pw, t0, l0, l1, e1, e2, a1, i1, h1, h2]
      try rfl
    · generalize oth16 t = zs at *
      simp only [s_sSeq, s_sNil, s_sRet, s_sRetT, s_sIf, s_sAsg, s_sPar, s_sSetM, s_cND, s_cC, s_cB, s_cU, s_cTup, s_cLst, s_cNil, s_cCons, s_cCall, s_cFn, s_cIx, s_cAnd, s_cOr, s_cNot, s_cIf, s_cTr, s_cBT, s_cAndT, s_cOrT, s_cNotT, s_cCh, s_cChT, s_cSl, s_sFor, s_cWalk, s_cLc, s_lcOne, s_cTrue, s_sApp, s_gN, s_gT, s_gsNil, s_gsCons, s_cV0, s_cVs, s_finR, s_finN, s_boolD, s_truB, s_setAll0, s_setAll1, s_op1, s_op2, s_abs, s_addI, s_subI, eqI, neI, ltI, gtI, leI, geI, mkTup1, mkTup2, mkTup3, idx_t0, idx_t1, idx_t2, obS, omS, List.set_cons_zero, List.set_cons_succ, s_cNone, s_cPart, s_intD, s_cRng1, s_walkL, s_walkT, s_lenT, s_lenL, s_lenS, s_slT, s_slL, if_true, if_false, decide_true, decide_false, Bool.not_true, Bool.not_false, Bool.and_true, Bool.and_false, Bool.true_and, Bool.false_and, Bool.false_eq_true, decide_eq_true_eq, s_cEnum, s_sPut, s_revL, s_revT, s_listL, s_listT, s_tupleL, s_tupleT, s_isDicLst, s_isDicTup, s_isDicInt, wipeE_nil, wipeE_cons, b__law_other, pw, t0, l0, l1, e1, e2, e3, a1, i1, h1, h2]
      try rfl
theorem shifted_ev (n m : Nat) (xs : List D) (j : Nat) (hj : j < xs.length) (ds : List Nat) (h : ∀ x ∈ xs, pq m x = true) (hn : ndL xs ≤ 40000) (hl : 3 ≤ ds.length) : ∃ ys, lvl (DT rows) (n + 1) "_law_shifted" [.lst xs, natD j, .lst (ds.map natD)] = some (.lst ys) ∧ (∀ y ∈ ys, pq m y = true) ∧ ndL ys ≤ ndL xs + nd xs[j] := by
  have hx := ndL_len xs
  have i0 : idxD (.lst (ds.map natD)) (.int 0) = some (natD ds[0]) := idx_nat (i := 0) (by omega)
  have i2 : idxD (.lst (ds.map natD)) (.int 2) = some (natD ds[2]) := idx_nat (i := 2) (by omega)
  have m2 := modN ds[2] xs.length (by omega)
  have m3 : modD (natD ds[0]) (.int 3) = some (natD (ds[0] % 3)) := modN _ 3 (by decide)
  have ho := Nat.mod_lt ds[2] (show 0 < xs.length by omega)
  generalize ds[2] % xs.length = o at *
  generalize ds[0] % 3 = q at *
  have c1 : cutL xs none (some (j : Int)) = xs.take j := cut_to xs j
  have c2 : cutL xs (some ((j : Int) + 1)) none = xs.drop (j + 1) := cut_from xs (j + 1)
  have c3 : cutL xs none (some (o : Int)) = xs.take o := cut_to xs o
  have c4 : cutL xs (some (o : Int)) none = xs.drop o := cut_from xs o
  have ix : idxD (.lst xs) (natD j) = some xs[j] := idx_lst hj
  have l1 : mkLst [xs[j]] = some (.lst [xs[j]]) := rfl
  have id' : ∀ i : Nat, intD (natD i) = some (i : Int) := fun _ => rfl
  have ad : addD (natD j) (.int 1) = some (.int ((j : Int) + 1)) := rfl
  have hat := ndL_at hj
  have hto := ndL_take xs o
  have mt : ∀ {i : Nat} {x : D}, x ∈ xs.take i → pq m x = true := fun hx => h _ (List.mem_of_mem_take hx)
  have md : ∀ {i : Nat} {x : D}, x ∈ xs.drop i → pq m x = true := fun hx => h _ (List.mem_of_mem_drop hx)
  have mj : pq m xs[j] = true := h _ (List.getElem_mem hj)
  have eq0 : ∀ i : Int, eqD (natD q) (.int i) = some (.bl (decide ((q : Int) = i))) := fun i => eqI _ _
  rw [v__law_shifted]
  by_cases q0 : (q : Int) = 0
  · refine ⟨xs.take j ++ xs.drop (j + 1), ?_, ?_, ?_⟩
    · have a1 := add_lst (a := xs.take j) (b := xs.drop (j + 1)) (by simp only [List.length_take, List.length_drop]; omega)
      simp only [s_sSeq, s_sNil, s_sRet, s_sRetT, s_sIf, s_sAsg, s_sPar, s_sSetM, s_cND, s_cC, s_cB, s_cU, s_cTup, s_cLst, s_cNil, s_cCons, s_cCall, s_cFn, s_cIx, s_cAnd, s_cOr, s_cNot, s_cIf, s_cTr, s_cBT, s_cAndT, s_cOrT, s_cNotT, s_cCh, s_cChT, s_cSl, s_sFor, s_cWalk, s_cLc, s_lcOne, s_cTrue, s_sApp, s_gN, s_gT, s_gsNil, s_gsCons, s_cV0, s_cVs, s_finR, s_finN, s_boolD, s_truB, s_setAll0, s_setAll1, s_op1, s_op2, s_abs, s_addI, s_subI, eqI, neI, ltI, gtI, leI, geI, mkTup1, mkTup2, mkTup3, idx_t0, idx_t1, idx_t2, obS, omS, List.set_cons_zero, List.set_cons_succ, s_cNone, s_cPart, s_intD, s_cRng1, s_walkL, s_walkT, s_lenT, s_lenL, s_lenS, s_slT, s_slL, if_true, if_false, decide_true, decide_false, Bool.not_true, Bool.not_false, Bool.and_true, Bool.and_false, Bool.true_and, Bool.false_and, Bool.false_eq_true, decide_eq_true_eq, s_cEnum, s_sPut, s_revL, s_revT, s_listL, s_listT, s_tupleL, s_tupleT, s_isDicLst, s_isDicTup, s_isDicInt, wipeE_nil, wipeE_cons, b__law_shifted, i0, i2, m2, m3, eq0, q0, s_cPart, id', c1, c2, ad, a1]
      try rfl
    · intro y hy
      rcases List.mem_append.mp hy with hy | hy
      · exact mt hy
      · exact md hy
    · rw [ndL_app]; omega
  by_cases q1 : (q : Int) = 1
  · refine ⟨(xs.take o ++ [xs[j]]) ++ xs.drop o, ?_, ?_, ?_⟩
    · have a1 := add_lst (a := xs.take o) (b := [xs[j]]) (by simp only [List.length_take, List.length_cons, List.length_nil]; omega)
      have a2 := add_lst (a := xs.take o ++ [xs[j]]) (b := xs.drop o) (by simp only [List.length_append, List.length_take, List.length_drop, List.length_cons, List.length_nil]; omega)
      simp only [s_sSeq, s_sNil, s_sRet, s_sRetT, s_sIf, s_sAsg, s_sPar, s_sSetM, s_cND, s_cC, s_cB, s_cU, s_cTup, s_cLst, s_cNil, s_cCons, s_cCall, s_cFn, s_cIx, s_cAnd, s_cOr, s_cNot, s_cIf, s_cTr, s_cBT, s_cAndT, s_cOrT, s_cNotT, s_cCh, s_cChT, s_cSl, s_sFor, s_cWalk, s_cLc, s_lcOne, s_cTrue, s_sApp, s_gN, s_gT, s_gsNil, s_gsCons, s_cV0, s_cVs, s_finR, s_finN, s_boolD, s_truB, s_setAll0, s_setAll1, s_op1, s_op2, s_abs, s_addI, s_subI, eqI, neI, ltI, gtI, leI, geI, mkTup1, mkTup2, mkTup3, idx_t0, idx_t1, idx_t2, obS, omS, List.set_cons_zero, List.set_cons_succ, s_cNone, s_cPart, s_intD, s_cRng1, s_walkL, s_walkT, s_lenT, s_lenL, s_lenS, s_slT, s_slL, if_true, if_false, decide_true, decide_false, Bool.not_true, Bool.not_false, Bool.and_true, Bool.and_false, Bool.true_and, Bool.false_and, Bool.false_eq_true, decide_eq_true_eq, s_cEnum, s_sPut, s_revL, s_revT, s_listL, s_listT, s_tupleL, s_tupleT, s_isDicLst, s_isDicTup, s_isDicInt, wipeE_nil, wipeE_cons, b__law_shifted, i0, i2, m2, m3, eq0, q0, eq_true q1, s_cPart, id', c3, c4, ix, l1, a1, a2]
      try rfl
    · intro y hy
      rcases List.mem_append.mp hy with hy | hy
      · rcases List.mem_append.mp hy with hy | hy
        · exact mt hy
        · rw [List.mem_singleton.mp hy]; exact mj
      · exact md hy
    · rw [ndL_app, ndL_app]; simp only [ndL]; omega
  · have a0 := add_lst (a := xs.take j) (b := xs.drop (j + 1)) (by simp only [List.length_take, List.length_drop]; omega)
    have mr : ∀ x ∈ xs.take j ++ xs.drop (j + 1), pq m x = true := by
      intro y hy
      rcases List.mem_append.mp hy with hy | hy
      · exact mt hy
      · exact md hy
    have hr : ndL (xs.take j ++ xs.drop (j + 1)) + nd xs[j] = ndL xs := by rw [ndL_app]; omega
    generalize xs.take j ++ xs.drop (j + 1) = rs at *
    have hrl := ndL_len rs
    have c5 : cutL rs none (some (o : Int)) = rs.take o := cut_to rs o
    have c6 : cutL rs (some (o : Int)) none = rs.drop o := cut_from rs o
    have a1 := add_lst (a := rs.take o) (b := [xs[j]]) (by simp only [List.length_take, List.length_cons, List.length_nil]; omega)
    have a2 := add_lst (a := rs.take o ++ [xs[j]]) (b := rs.drop o) (by simp only [List.length_append, List.length_take, List.length_drop, List.length_cons, List.length_nil]; omega)
    refine ⟨(rs.take o ++ [xs[j]]) ++ rs.drop o, ?_, ?_, ?_⟩
    · simp only [s_sSeq, s_sNil, s_sRet, s_sRetT, s_sIf, s_sAsg, s_sPar, s_sSetM, s_cND, s_cC, s_cB, s_cU, s_cTup, s_cLst, s_cNil, s_cCons, s_cCall, s_cFn, s_cIx, s_cAnd, s_cOr, s_cNot, s_cIf, s_cTr, s_cBT, s_cAndT, s_cOrT, s_cNotT, s_cCh, s_cChT, s_cSl, s_sFor, s_cWalk, s_cLc, s_lcOne, s_cTrue, s_sApp, s_gN, s_gT, s_gsNil, s_gsCons, s_cV0, s_cVs, s_finR, s_finN, s_boolD, s_truB, s_setAll0, s_setAll1, s_op1, s_op2, s_abs, s_addI, s_subI, eqI, neI, ltI, gtI, leI, geI, mkTup1, mkTup2, mkTup3, idx_t0, idx_t1, idx_t2, obS, omS, List.set_cons_zero, List.set_cons_succ, s_cNone, s_cPart, s_intD, s_cRng1, s_walkL, s_walkT, s_lenT, s_lenL, s_lenS, s_slT, s_slL, if_true, if_false, decide_true, decide_false, Bool.not_true, Bool.not_false, Bool.and_true, Bool.and_false, Bool.true_and, Bool.false_and, Bool.false_eq_true, decide_eq_true_eq, s_cEnum, s_sPut, s_revL, s_revT, s_listL, s_listT, s_tupleL, s_tupleT, s_isDicLst, s_isDicTup, s_isDicInt, wipeE_nil, wipeE_cons, b__law_shifted, i0, i2, m2, m3, eq0, q0, q1, s_cPart, id', c1, c2, c5, c6, ad, a0, ix, l1, a1, a2]
      try rfl
    · intro y hy
      rcases List.mem_append.mp hy with hy | hy
      · rcases List.mem_append.mp hy with hy | hy
        · exact mr _ (List.mem_of_mem_take hy)
        · rw [List.mem_singleton.mp hy]; exact mj
      · exact mr _ (List.mem_of_mem_drop hy)
    · have := ndL_take rs o
      rw [ndL_app, ndL_app]; simp only [ndL]; omega
noncomputable def puC : SB := cAndT (cBT eqD (cCall (op1 lenD) (cCons (cV 1) (cNil))) (cC (.int 1))) (cBT eqD (cB modD (cIx (cV 2) (cC (.int 3))) (cC (.int 2))) (cC (.int 0)))
theorem put_eq : b__law_put = sSeq (sIf (cBT eqD (cV 1) (cTup (cNil))) (sSeq (sRet (cFn "_law_other" (cCons (cV 0) (cCons (cV 2) (cNil))))) (sNil)) (sNil)) (sSeq (sSetM 3 (cND (cCall (op1 listDD) (cCons (cV 0) (cNil))))) (sSeq (sIf puC (sSeq (sSetM 3 (cND (cFn "_law_shifted" (cCons (cV 3) (cCons (cIx (cV 1) (cC (.int 0))) (cCons (cV 2) (cNil))))))) (sNil)) (sSeq (sPut 3 (cIx (cV 1) (cC (.int 0))) (cFn "_law_put" (cCons (cIx (cV 3) (cIx (cV 1) (cC (.int 0)))) (cCons (cSl (cV 1) (cPart (cC (.int 1))) (cNone)) (cCons (cV 2) (cNil)))))) (sNil))) (sSeq (sRet (cIf (cTr (cU (isiD ["list"]) (cV 0))) (cV 3) (cCall (op1 tupleD) (cCons (cV 3) (cNil))))) (sNil)))) := rfl
theorem put_ev : ∀ (m n k : Nat) (t : D) (p ds : List Nat), m ≤ 60 → Sm m k t → k ≤ 40000 → p ∈ paths t → 4 ≤ ds.length → ∃ r, lvl (DT rows) (n + m + 2) "_law_put" [t, pathD p, .lst (ds.map natD)] = some r ∧ pq (m + 1) r = true ∧ nd r ≤ 2 * nd t + 2 := by
  intro m
  have leaf : ∀ (n m k : Nat) (t : D) (ds : List Nat), Sm m k t → 4 ≤ ds.length → ∃ r, lvl (DT rows) (n + 2) "_law_put" [t, pathD [], .lst (ds.map natD)] = some r ∧ pq (m + 1) r = true ∧ nd r ≤ 2 * nd t + 2 := by
    intro n m k t ds h hl
    obtain ⟨r, h1, h2⟩ := other_ev n m (nd t) t ds ⟨h.d, Nat.le_refl _⟩ (by omega)
    refine ⟨r, ?_, h2.d, by have := h2.n; have := nd_pos t; omega⟩
    rw [v__law_put, put_eq]
    have e := eq_path0 []
    have m0 : mkTup [] = some (.tup []) := rfl
    simp only [s_sSeq, s_sNil, s_sRet, s_sRetT, s_sIf, s_sAsg, s_sPar, s_sSetM, s_cND, s_cC, s_cB, s_cU, s_cTup, s_cLst, s_cNil, s_cCons, s_cCall, s_cFn, s_cIx, s_cAnd, s_cOr, s_cNot, s_cIf, s_cTr, s_cBT, s_cAndT, s_cOrT, s_cNotT, s_cCh, s_cChT, s_cSl, s_sFor, s_cWalk, s_cLc, s_lcOne, s_cTrue, s_sApp, s_gN, s_gT, s_gsNil, s_gsCons, s_cV0, s_cVs, s_finR, s_finN, s_boolD, s_truB, s_setAll0, s_setAll1, s_op1, s_op2, s_abs, s_addI, s_subI, eqI, neI, ltI, gtI, leI, geI, mkTup1, mkTup2, mkTup3, idx_t0, idx_t1, idx_t2, obS, omS, List.set_cons_zero, List.set_cons_succ, s_cNone, s_cPart, s_intD, s_cRng1, s_walkL, s_walkT, s_lenT, s_lenL, s_lenS, s_slT, s_slL, if_true, if_false, decide_true, decide_false, Bool.not_true, Bool.not_false, Bool.and_true, Bool.and_false, Bool.true_and, Bool.false_and, Bool.false_eq_true, decide_eq_true_eq, s_cEnum, s_sPut, s_revL, s_revT, s_listL, s_listT, s_tupleL, s_tupleT, s_isDicLst, s_isDicTup, s_isDicInt, wipeE_nil, wipeE_cons, m0, e, h1]
    try rfl
  have node : ∀ (n m : Nat) (t : D) (xs : List D) (j : Nat) (q ds : List Nat) (hj : j < xs.length), listDD t = some (.lst xs) → (isiD ["list"] t = some (.bl true) ∨ isiD ["list"] t = some (.bl false)) → (∀ x ∈ xs, pq m x = true) → nd t = 1 + ndL xs → nd t ≤ 40000 → q.length ≤ 100 → 4 ≤ ds.length →
      (∃ r, lvl (DT rows) (n + 1) "_law_put" [xs[j], pathD q, .lst (ds.map natD)] = some r ∧ pq (m + 1) r = true ∧ nd r ≤ 2 * nd xs[j] + 2) →
      ∃ r, lvl (DT rows) (n + 2) "_law_put" [t, pathD (j :: q), .lst (ds.map natD)] = some r ∧ pq (m + 2) r = true ∧ nd r ≤ 2 * nd t + 2 := by
    intro n m t xs j q ds hj e1 e2 hx hn hk hq hl ⟨r, h1, h2, h3⟩
    obtain ⟨ys, g1, g2, g3⟩ := shifted_ev n m xs j hj ds hx (by omega) (by omega)
    have i3 : idxD (.lst (ds.map natD)) (.int 3) = some (natD ds[3]) := idx_nat (i := 3) (by omega)
    have m3 : modD (natD ds[3]) (.int 2) = some (natD (ds[3] % 2)) := modN _ 2 (by decide)
    have eq0 : eqD (natD (ds[3] % 2)) (.int 0) = some (.bl (decide (((ds[3] % 2 : Nat) : Int) = 0))) := eqI _ _
    have p0 := eq_path0 (j :: q)
    have m0 : mkTup [] = some (.tup []) := rfl
    have hd : decide (j :: q = []) = false := by simp
    rw [hd] at p0
    have ln : lenD (pathD (j :: q)) = some (.int ((q.length + 1 : Nat) : Int)) := by simp [pathD, natsD, lenD]
    have ip : idxD (pathD (j :: q)) (.int 0) = some (natD j) := by
      unfold pathD natsD
      exact idx_natT (ds := j :: q) (i := 0) (by simp)
    have sp : slcD (some 1) none (pathD (j :: q)) = some (pathD q) := by
      unfold pathD natsD
      rw [s_slT]
      have := cut_from ((j :: q).map natD) 1
      rw [show ((1 : Nat) : Int) = 1 from rfl] at this
      rw [this]; rfl
    have ix : idxD (.lst xs) (natD j) = some xs[j] := idx_lst hj
    have st := put_lst hj r
    have st : putD (.lst xs) (natD j) r = some (.lst (xs.set j r)) := st
    have hjj := ndL_mem (List.getElem_mem hj)
    have hset := ndL_set hj r
    have pset : ∀ x ∈ xs.set j r, pq (m + 1) x = true := by
      intro x hx'
      rcases List.mem_or_eq_of_mem_set hx' with hx' | rfl
      · exact pq_up (by omega) (hx x hx')
      · exact h2
    have pys : ∀ x ∈ ys, pq (m + 1) x = true := fun x hx' => pq_up (by omega) (g2 x hx')
    rw [v__law_put, put_eq]
    by_cases c : (((q.length + 1 : Nat) : Int) = 1) ∧ (((ds[3] % 2 : Nat) : Int) = 0)
    · obtain ⟨c1, c2⟩ := c
      rcases e2 with e2 | e2
      · refine ⟨.lst ys, ?_, by rw [pq_lst, List.all_eq_true]; exact pys, by simp only [nd]; omega⟩
        simp only [s_sSeq, s_sNil, s_sRet, s_sRetT, s_sIf, s_sAsg, s_sPar, s_sSetM, s_cND, s_cC, s_cB, s_cU, s_cTup, s_cLst, s_cNil, s_cCons, s_cCall, s_cFn, s_cIx, s_cAnd, s_cOr, s_cNot, s_cIf, s_cTr, s_cBT, s_cAndT, s_cOrT, s_cNotT, s_cCh, s_cChT, s_cSl, s_sFor, s_cWalk, s_cLc, s_lcOne, s_cTrue, s_sApp, s_gN, s_gT, s_gsNil, s_gsCons, s_cV0, s_cVs, s_finR, s_finN, s_boolD, s_truB, s_setAll0, s_setAll1, s_op1, s_op2, s_abs, s_addI, s_subI, eqI, neI, ltI, gtI, leI, geI, mkTup1, mkTup2, mkTup3, idx_t0, idx_t1, idx_t2, obS, omS, List.set_cons_zero, List.set_cons_succ, s_cNone, s_cPart, s_intD, s_cRng1, s_walkL, s_walkT, s_lenT, s_lenL, s_lenS, s_slT, s_slL, if_true, if_false, decide_true, decide_false, Bool.not_true, Bool.not_false, Bool.and_true, Bool.and_false, Bool.true_and, Bool.false_and, Bool.false_eq_true, decide_eq_true_eq, s_cEnum, s_sPut, s_revL, s_revT, s_listL, s_listT, s_tupleL, s_tupleT, s_isDicLst, s_isDicTup, s_isDicInt, wipeE_nil, wipeE_cons, puC, m0, p0, e1, ln, eq_true c1, i3, m3, eq0, eq_true c2, ip, g1, e2]
      · refine ⟨.tup ys, ?_, by rw [pq_tup, List.all_eq_true]; exact pys, by simp only [nd]; omega⟩
        simp only [s_sSeq, s_sNil, s_sRet, s_sRetT, s_sIf, s_sAsg, s_sPar, s_sSetM, s_cND, s_cC, s_cB, s_cU, s_cTup, s_cLst, s_cNil, s_cCons, s_cCall, s_cFn, s_cIx, s_cAnd, s_cOr, s_cNot, s_cIf, s_cTr, s_cBT, s_cAndT, s_cOrT, s_cNotT, s_cCh, s_cChT, s_cSl, s_sFor, s_cWalk, s_cLc, s_lcOne, s_cTrue, s_sApp, s_gN, s_gT, s_gsNil, s_gsCons, s_cV0, s_cVs, s_finR, s_finN, s_boolD, s_truB, s_setAll0, s_setAll1, s_op1, s_op2, s_abs, s_addI, s_subI, eqI, neI, ltI, gtI, leI, geI, mkTup1, mkTup2, mkTup3, idx_t0, idx_t1, idx_t2, obS, omS, List.set_cons_zero, List.set_cons_succ, s_cNone, s_cPart, s_intD, s_cRng1, s_walkL, s_walkT, s_lenT, s_lenL, s_lenS, s_slT, s_slL, if_true, if_false, decide_true, decide_false, Bool.not_true, Bool.not_false, Bool.and_true, Bool.and_false, Bool.true_and, Bool.false_and, Bool.false_eq_true, decide_eq_true_eq, s_cEnum, s_sPut, s_revL, s_revT, s_listL, s_listT, s_tupleL, s_tupleT, s_isDicLst, s_isDicTup, s_isDicInt, wipeE_nil, wipeE_cons, puC, m0, p0, e1, ln, eq_true c1, i3, m3, eq0, eq_true c2, ip, g1, e2]
    · have ct : ∀ (F : Fn) (ρ : RE.Env), cV 1 F ρ = some (pathD (j :: q)) → cV 2 F ρ = some (.lst (ds.map natD)) → puC F ρ = some false := by
        intro F ρ z1 z2
        simp only [s_sSeq, s_sNil, s_sRet, s_sRetT, s_sIf, s_sAsg, s_sPar, s_sSetM, s_cND, s_cC, s_cB, s_cU, s_cTup, s_cLst, s_cNil, s_cCons, s_cCall, s_cFn, s_cIx, s_cAnd, s_cOr, s_cNot, s_cIf, s_cTr, s_cBT, s_cAndT, s_cOrT, s_cNotT, s_cCh, s_cChT, s_cSl, s_sFor, s_cWalk, s_cLc, s_lcOne, s_cTrue, s_sApp, s_gN, s_gT, s_gsNil, s_gsCons, s_cV0, s_cVs, s_finR, s_finN, s_boolD, s_truB, s_setAll0, s_setAll1, s_op1, s_op2, s_abs, s_addI, s_subI, eqI, neI, ltI, gtI, leI, geI, mkTup1, mkTup2, mkTup3, idx_t0, idx_t1, idx_t2, obS, omS, List.set_cons_zero, List.set_cons_succ, s_cNone, s_cPart, s_intD, s_cRng1, s_walkL, s_walkT, s_lenT, s_lenL, s_lenS, s_slT, s_slL, if_true, if_false, decide_true, decide_false, Bool.not_true, Bool.not_false, Bool.and_true, Bool.and_false, Bool.true_and, Bool.false_and, Bool.false_eq_true, decide_eq_true_eq, s_cEnum, s_sPut, s_revL, s_revT, s_listL, s_listT, s_tupleL, s_tupleT, s_isDicLst, s_isDicTup, s_isDicInt, wipeE_nil, wipeE_cons, puC, z1, z2, ln, i3, m3, eq0]
        by_cases c1 : (((q.length + 1 : Nat) : Int) = 1)
        · have c2 : ¬ (((ds[3] % 2 : Nat) : Int) = 0) := fun z => c ⟨c1, z⟩
          simp only [eq_true c1, c2, decide_true, decide_false, if_true]
        · simp only [c1, decide_false, Bool.false_eq_true, if_false]
      rcases e2 with e2 | e2
      · refine ⟨.lst (xs.set j r), ?_, by rw [pq_lst, List.all_eq_true]; exact pset, by simp only [nd]; omega⟩
        simp only [ct, s_sSeq, s_sNil, s_sRet, s_sRetT, s_sIf, s_sAsg, s_sPar, s_sSetM, s_cND, s_cC, s_cB, s_cU, s_cTup, s_cLst, s_cNil, s_cCons, s_cCall, s_cFn, s_cIx, s_cAnd, s_cOr, s_cNot, s_cIf, s_cTr, s_cBT, s_cAndT, s_cOrT, s_cNotT, s_cCh, s_cChT, s_cSl, s_sFor, s_cWalk, s_cLc, s_lcOne, s_cTrue, s_sApp, s_gN, s_gT, s_gsNil, s_gsCons, s_cV0, s_cVs, s_finR, s_finN, s_boolD, s_truB, s_setAll0, s_setAll1, s_op1, s_op2, s_abs, s_addI, s_subI, eqI, neI, ltI, gtI, leI, geI, mkTup1, mkTup2, mkTup3, idx_t0, idx_t1, idx_t2, obS, omS, List.set_cons_zero, List.set_cons_succ, s_cNone, s_cPart, s_intD, s_cRng1, s_walkL, s_walkT, s_lenT, s_lenL, s_lenS, s_slT, s_slL, if_true, if_false, decide_true, decide_false, Bool.not_true, Bool.not_false, Bool.and_true, Bool.and_false, Bool.true_and, Bool.false_and, Bool.false_eq_true, decide_eq_true_eq, s_cEnum, s_sPut, s_revL, s_revT, s_listL, s_listT, s_tupleL, s_tupleT, s_isDicLst, s_isDicTup, s_isDicInt, wipeE_nil, wipeE_cons, m0, p0, e1, ip, ix, sp, h1, st, e2, s_cPart]
      · refine ⟨.tup (xs.set j r), ?_, by rw [pq_tup, List.all_eq_true]; exact pset, by simp only [nd]; omega⟩
        simp only [ct, s_sSeq, s_sNil, s_sRet, s_sRetT, s_sIf, s_sAsg, s_sPar, s_sSetM, s_cND, s_cC, s_cB, s_cU, s_cTup, s_cLst, s_cNil, s_cCons, s_cCall, s_cFn, s_cIx, s_cAnd, s_cOr, s_cNot, s_cIf, s_cTr, s_cBT, s_cAndT, s_cOrT, s_cNotT, s_cCh, s_cChT, s_cSl, s_sFor, s_cWalk, s_cLc, s_lcOne, s_cTrue, s_sApp, s_gN, s_gT, s_gsNil, s_gsCons, s_cV0, s_cVs, s_finR, s_finN, s_boolD, s_truB, s_setAll0, s_setAll1, s_op1, s_op2, s_abs, s_addI, s_subI, eqI, neI, ltI, gtI, leI, geI, mkTup1, mkTup2, mkTup3, idx_t0, idx_t1, idx_t2, obS, omS, List.set_cons_zero, List.set_cons_succ, s_cNone, s_cPart, s_intD, s_cRng1, s_walkL, s_walkT, s_lenT, s_lenL, s_lenS, s_slT, s_slL, if_true, if_false, decide_true, decide_false, Bool.not_true, Bool.not_false, Bool.and_true, Bool.and_false, Bool.true_and, Bool.false_and, Bool.false_eq_true, decide_eq_true_eq, s_cEnum, s_sPut, s_revL, s_revT, s_listL, s_listT, s_tupleL, s_tupleT, s_isDicLst, s_isDicTup, s_isDicInt, wipeE_nil, wipeE_cons, m0, p0, e1, ip, ix, sp, h1, st, e2, s_cPart]
  induction m with
  | zero =>
    intro n k t p ds hm h hk hp hl
    have : p = [] := by have := paths_short h.pd hp; exact List.eq_nil_of_length_eq_zero (by omega)
    subst this
    exact leaf n 0 k t ds h hl
  | succ m ih =>
    intro n k t p ds hm h hk hp hl
    have hpl := paths_short h.pd hp
    cases p with
    | nil => exact leaf (n + (m + 1)) (m + 1) k t ds h hl
    | cons j q =>
      have hd := h.d
      have hn := h.n
      cases t with
      | tup xs =>
        simp only [paths, List.mem_cons, reduceCtorEq, false_or] at hp
        obtain ⟨j', q', hj, e, hq⟩ := mem_pathsL hp
        obtain ⟨rfl, rfl⟩ : j = j' ∧ q = q' := by
          have := List.cons.inj e
          exact ⟨by omega, this.2⟩
        rw [pq_tup, List.all_eq_true] at hd
        have hx := hd _ (List.getElem_mem hj)
        have hjj := ndL_mem (List.getElem_mem hj)
        simp only [nd] at hn
        have := ih n (nd xs[j]) xs[j] q ds (by omega) ⟨hx, Nat.le_refl _⟩ (by omega) hq hl
        simp only [List.length_cons] at hpl
        exact node (n + (m + 1)) m _ xs j q ds hj rfl (.inr rfl) hd (by simp only [nd]) (by simp only [nd]; omega) (by omega) hl this
      | lst xs =>
        simp only [paths, List.mem_cons, reduceCtorEq, false_or] at hp
        obtain ⟨j', q', hj, e, hq⟩ := mem_pathsL hp
        obtain ⟨rfl, rfl⟩ : j = j' ∧ q = q' := by
          have := List.cons.inj e
          exact ⟨by omega, this.2⟩
        rw [pq_lst, List.all_eq_true] at hd
        have hx := hd _ (List.getElem_mem hj)
        have hjj := ndL_mem (List.getElem_mem hj)
        simp only [nd] at hn
        have := ih n (nd xs[j]) xs[j] q ds (by omega) ⟨hx, Nat.le_refl _⟩ (by omega) hq hl
        simp only [List.length_cons] at hpl
        exact node (n + (m + 1)) m _ xs j q ds hj rfl (.inl rfl) hd (by simp only [nd]) (by simp only [nd]; omega) (by omega) hl this
      | non => simp [paths] at hp
      | bl _ => simp [paths] at hp
      | int _ => simp [paths] at hp
      | str _ => simp [paths] at hp
      | dic _ _ => simp [paths] at hp
      | scr _ => simp [paths] at hp
      | fn _ => simp [paths] at hp
end L
end
section
open PySem PySem.Spec PyProof.Rows L2 RE
namespace L
theorem bent_ev (n m k : Nat) (t : D) (ds : List Nat) (hm : m ≤ 60) (h : Sm m k t) (hk : k ≤ 40000) (hl : 5 ≤ ds.length) : ∃ r, lvl (DT rows) (n + m + 3) "_law_bent" [t, .lst (ds.map natD)] = some r ∧ Sm (m + 1) (2 * k + 2) r := by
  have hp : lvl (DT rows) (n + m + 2) "_law_places" [t] = some (.lst ((paths t).map pathD)) := by
    have := places_ev m (n + 1) t h.pd hm (by have := h.n; omega)
    rw [show n + 1 + m + 1 = n + m + 2 by omega] at this
    exact this
  have hpos : 0 < (paths t).length := by rw [paths_len]; exact nd_pos t
  have hj := Nat.mod_lt ds[4] hpos
  obtain ⟨r, h1, h2, h3⟩ := put_ev m n k t (paths t)[ds[4] % (paths t).length] ds hm h hk (List.getElem_mem hj) (by omega)
  refine ⟨r, ?_, h2, by have := h.n; omega⟩
  have i4 : idxD (.lst (ds.map natD)) (.int 4) = some (natD ds[4]) := idx_nat (i := 4) (by omega)
  have md := modN ds[4] (paths t).length (by omega)
  have ix : idxD (.lst ((paths t).map pathD)) (natD (ds[4] % (paths t).length)) = some (pathD (paths t)[ds[4] % (paths t).length]) := by
    have := idx_lst (l := (paths t).map pathD) (i := ds[4] % (paths t).length) (by rw [List.length_map]; exact hj)
    rw [List.getElem_map] at this
    exact this
  have ln : lenD (.lst ((paths t).map pathD)) = some (.int ((paths t).length : Int)) := by simp [lenD]
  generalize (paths t)[ds[4] % (paths t).length] = pp at *
  generalize (paths t).map pathD = P at *
  rw [v__law_bent]
  generalize lvl (DT rows) (n + m + 2) = F at *
  simp only [s_cFn, s_sSeq, s_sAsg, s_cCons, s_cNil, s_cV0, s_cVs, obS, omS, s_gN, List.set_cons_zero, List.set_cons_succ, b__law_bent, hp, i4, s_sRet, s_cIx, s_cB, s_cC, s_cCall, s_op1, ln, md, ix, h1]
  rfl
end L
namespace L
noncomputable def thLc : SE := cLc [5] (cRng1 (cB modD (cIx (cV 0) (cB addD (cV 1) (cC (.int 4)))) (cC (.int 4)))) (gN 5) (cTrue) (cFn "_law_thing" (cCons (cB addD (cSl (cV 0) (cPart (cV 5)) (cNone)) (cSl (cV 0) (cNone) (cPart (cV 5)))) (cCons (cB addD (cV 1) (cC (.int 1))) (cNil))))
noncomputable def thR6 : SS := sSeq (sRet (cIf (cBT eqD (cV 2) (cC (.int 9))) (cV 4) (cCall (op1 tupleD) (cCons (cV 4) (cNil))))) (sNil)
noncomputable def thR5 : SS := sSeq (sAsg thLc (gN 4)) thR6
noncomputable def thR4 : SS := sSeq (sIf (cBT ltD (cV 2) (cC (.int 9))) (sSeq (sRet (cIx (cLst (cCons (cC (.str "")) (cCons (cC (.str "0")) (cCons (cC (.str "1-0")) (cCons (cC (.str "hall")) (cCons (cC (.str "3")) (cCons (cC (.str "none")) (cCons (cC (.str "1:")) (cCons (cC (.str "~")) (cNil)))))))))) (cB modD (cIx (cV 0) (cB addD (cV 1) (cC (.int 3)))) (cC (.int 8))))) (sNil)) (sNil)) thR5
noncomputable def thR3 : SS := sSeq (sIf (cBT ltD (cV 2) (cC (.int 7))) (sSeq (sRet (cIx (cLst (cCons (cC (.bl true)) (cCons (cC (.bl false)) (cCons (cC (.non)) (cNil))))) (cB subD (cV 2) (cC (.int 4))))) (sNil)) (sNil)) thR4
noncomputable def thR2 : SS := sSeq (sIf (cOrT (cBT ltD (cV 2) (cC (.int 4))) (cBT gtD (cV 1) (cC (.int 3)))) (sSeq (sRet (cV 3)) (sNil)) (sNil)) thR3
noncomputable def thR1 : SS := sSeq (sAsg (cIx (cLst (cCons (cB subD (cB modD (cIx (cV 0) (cB addD (cV 1) (cC (.int 1)))) (cC (.int 12))) (cC (.int 2))) (cCons (cB subD (cC (.int 0)) (cB powD (cC (.int 10)) (cC (.int 39)))) (cCons (cB powD (cC (.int 10)) (cC (.int 39))) (cNil))))) (cB modD (cIx (cV 0) (cB addD (cV 1) (cC (.int 2)))) (cC (.int 3)))) (gN 3)) thR2
noncomputable def thR0 : SS := sSeq (sAsg (cB modD (cIx (cV 0) (cV 1)) (cC (.int 12))) (gN 2)) thR1
theorem thing_eq : b__law_thing = thR0 := rfl
theorem thLc_ev (F : Fn) (ds : D) (deep far q : D) (v4 : D) (w : Nat) (ys : List D) {d4 : D} {w' : D} (a4 : addD deep (.int 4) = some d4) (h4 : idxD ds d4 = some v4) (m4 : modD v4 (.int 4) = some w') (hrng : rng1D w' = some ((List.range w).map natD))
    (y2 : lcAll (lcOne (gN 5) cTrue (cFn "_law_thing" (cCons (cB addD (cSl (cV 0) (cPart (cV 5)) cNone) (cSl (cV 0) cNone (cPart (cV 5)))) (cCons (cB addD (cV 1) (cC (.int 1))) cNil))) F [some ds, some deep, some q, some far, none, none]) ((List.range w).map natD) = some ys) (ml : mkLst ys = some (.lst ys)) :
    thLc F [some ds, some deep, some q, some far, none, none] = some (.lst ys) := by
  have e : cRng1 (cB modD (cIx (cV 0) (cB addD (cV 1) (cC (.int 4)))) (cC (.int 4))) F [some ds, some deep, some q, some far, none, none] = some ((List.range w).map natD) := by
    simp only [s_sSeq, s_sNil, s_sRet, s_sRetT, s_sIf, s_sAsg, s_sPar, s_sSetM, s_cND, s_cC, s_cB, s_cU, s_cTup, s_cLst, s_cNil, s_cCons, s_cCall, s_cFn, s_cIx, s_cAnd, s_cOr, s_cNot, s_cIf, s_cTr, s_cBT, s_cAndT, s_cOrT, s_cNotT, s_cCh, s_cChT, s_cSl, s_sFor, s_cWalk, s_cLc, s_lcOne, s_cTrue, s_sApp, s_gN, s_gT, s_gsNil, s_gsCons, s_cV0, s_cVs, s_finR, s_finN, s_boolD, s_truB, s_setAll0, s_setAll1, s_op1, s_op2, s_abs, s_addI, s_subI, eqI, neI, ltI, gtI, leI, geI, mkTup1, mkTup2, mkTup3, idx_t0, idx_t1, idx_t2, obS, omS, List.set_cons_zero, List.set_cons_succ, s_cNone, s_cPart, s_intD, s_cRng1, s_walkL, s_walkT, s_lenT, s_lenL, s_lenS, s_slT, s_slL, if_true, if_false, decide_true, decide_false, Bool.not_true, Bool.not_false, Bool.and_true, Bool.and_false, Bool.true_and, Bool.false_and, Bool.false_eq_true, decide_eq_true_eq, s_cEnum, s_sPut, s_revL, s_revT, s_listL, s_listT, s_tupleL, s_tupleT, s_isDicLst, s_isDicTup, s_isDicInt, wipeE_nil, wipeE_cons, a4, h4, m4, hrng]
  unfold thLc
  rw [s_cLc, e]
  show (lcAll _ _).bind mkLst = _
  rw [show wipeE [some ds, some deep, some q, some far, none, none] [5] = [some ds, some deep, some q, some far, none, none] from rfl, y2]
  exact ml
/-- a thing drawn -/
theorem thing_ev : ∀ (e n deep : Nat) (ds : List Nat), deep + e = 4 → 9 ≤ ds.length → ds.length ≤ 1000 → ∃ r, lvl (DT rows) (n + e + 1) "_law_thing" [.lst (ds.map natD), natD deep] = some r ∧ Sm e (4 ^ e) r := by
  intro e
  have pre : ∀ (n deep : Nat) (ds : List Nat) (K : Nat) (hd : deep ≤ 4), 9 ≤ ds.length → 1 ≤ K → (deep < 4 → ∀ j : Nat, j < 4 → ∃ r, lvl (DT rows) n "_law_thing" [.lst ((ds.drop j ++ ds.take j).map natD), natD (deep + 1)] = some r ∧ Sm (4 - (deep + 1)) (4 ^ (4 - (deep + 1))) r) → (deep < 4 → 1 + 3 * 4 ^ (4 - (deep + 1)) ≤ K) → ds.length ≤ 1000 →
      ∃ r, lvl (DT rows) (n + 1) "_law_thing" [.lst (ds.map natD), natD deep] = some r ∧ Sm (4 - deep) K r := by
    intro n deep ds K hd hl hK ih hKK hu
    have ix : ∀ i : Nat, i ≤ 4 → ∃ v : Nat, idxD (.lst (ds.map natD)) (natD (deep + i)) = some (natD v) := fun i hi => ⟨_, idx_nat (by omega)⟩
    obtain ⟨v0, h0⟩ := ix 0 (by omega)
    obtain ⟨v1, h1⟩ := ix 1 (by omega)
    obtain ⟨v2, h2⟩ := ix 2 (by omega)
    obtain ⟨v3, h3⟩ := ix 3 (by omega)
    obtain ⟨v4, h4⟩ := ix 4 (by omega)
    have m0 : modD (natD v0) (.int 12) = some (natD (v0 % 12)) := modN _ 12 (by decide)
    have m1 : modD (natD v1) (.int 12) = some (natD (v1 % 12)) := modN _ 12 (by decide)
    have m2 : modD (natD v2) (.int 3) = some (natD (v2 % 3)) := modN _ 3 (by decide)
    have m3 : modD (natD v3) (.int 8) = some (natD (v3 % 8)) := modN _ 8 (by decide)
    have m4 : modD (natD v4) (.int 4) = some (natD (v4 % 4)) := modN _ 4 (by decide)
    have l0 := Nat.mod_lt v0 (show 0 < 12 by decide)
    have l2 := Nat.mod_lt v2 (show 0 < 3 by decide)
    have l3 := Nat.mod_lt v3 (show 0 < 8 by decide)
    have l4 := Nat.mod_lt v4 (show 0 < 4 by decide)
    have pw : powD (.int 10) (.int 39) = some (.int (10 ^ 39)) := by simp [powD]
    have mk3 : ∀ a b c : D, mkLst [a, b, c] = some (.lst [a, b, c]) := fun _ _ _ => rfl
    have mk8 : ∀ a b c d e f g h : D, mkLst [a, b, c, d, e, f, g, h] = some (.lst [a, b, c, d, e, f, g, h]) := fun _ _ _ _ _ _ _ _ => rfl
    have a1 : addD (natD deep) (.int 1) = some (natD (deep + 1)) := rfl
    have a2 : addD (natD deep) (.int 2) = some (natD (deep + 2)) := rfl
    have a3 : addD (natD deep) (.int 3) = some (natD (deep + 3)) := rfl
    have a4 : addD (natD deep) (.int 4) = some (natD (deep + 4)) := rfl
    have sb : subD (natD (v1 % 12)) (.int 2) = some (.int (((v1 % 12 : Nat) : Int) - 2)) := rfl
    obtain ⟨far, hf⟩ : ∃ far : Int, idxD (.lst [.int (((v1 % 12 : Nat) : Int) - 2), .int (0 - 10 ^ 39), .int (10 ^ 39)]) (natD (v2 % 3)) = some (.int far) := by
      generalize v2 % 3 = i at *
      match i, l2 with
      | 0, _ => exact ⟨_, rfl⟩
      | 1, _ => exact ⟨_, rfl⟩
      | 2, _ => exact ⟨_, rfl⟩
    have h0 : idxD (.lst (ds.map natD)) (natD deep) = some (natD v0) := h0
    have lt4 : ∀ q : Nat, ltD (natD q) (.int 4) = some (.bl (decide ((q : Int) < 4))) := fun q => ltI _ _
    have lt7 : ∀ q : Nat, ltD (natD q) (.int 7) = some (.bl (decide ((q : Int) < 7))) := fun q => ltI _ _
    have lt9 : ∀ q : Nat, ltD (natD q) (.int 9) = some (.bl (decide ((q : Int) < 9))) := fun q => ltI _ _
    have eq9 : ∀ q : Nat, eqD (natD q) (.int 9) = some (.bl (decide ((q : Int) = 9))) := fun q => eqI _ _
    have gt3 : gtD (natD deep) (.int 3) = some (.bl (decide ((3 : Int) < (deep : Int)))) := gtI _ _
    rw [v__law_thing, thing_eq]
    generalize v0 % 12 = q at *
    have E0 : (thR0 (lvl (DT rows) n) [some (.lst (ds.map natD)), some (natD deep), none, none, none, none]) = thR2 (lvl (DT rows) n) [some (.lst (ds.map natD)), some (natD deep), some (natD q), some (.int far), none, none] := by
      unfold thR0
      simp only [s_sSeq, s_sNil, s_sRet, s_sRetT, s_sIf, s_sAsg, s_sPar, s_sSetM, s_cND, s_cC, s_cB, s_cU, s_cTup, s_cLst, s_cNil, s_cCons, s_cCall, s_cFn, s_cIx, s_cAnd, s_cOr, s_cNot, s_cIf, s_cTr, s_cBT, s_cAndT, s_cOrT, s_cNotT, s_cCh, s_cChT, s_cSl, s_sFor, s_cWalk, s_cLc, s_lcOne, s_cTrue, s_sApp, s_gN, s_gT, s_gsNil, s_gsCons, s_cV0, s_cVs, s_finR, s_finN, s_boolD, s_truB, s_setAll0, s_setAll1, s_op1, s_op2, s_abs, s_addI, s_subI, eqI, neI, ltI, gtI, leI, geI, mkTup1, mkTup2, mkTup3, idx_t0, idx_t1, idx_t2, obS, omS, List.set_cons_zero, List.set_cons_succ, s_cNone, s_cPart, s_intD, s_cRng1, s_walkL, s_walkT, s_lenT, s_lenL, s_lenS, s_slT, s_slL, if_true, if_false, decide_true, decide_false, Bool.not_true, Bool.not_false, Bool.and_true, Bool.and_false, Bool.true_and, Bool.false_and, Bool.false_eq_true, decide_eq_true_eq, s_cEnum, s_sPut, s_revL, s_revT, s_listL, s_listT, s_tupleL, s_tupleT, s_isDicLst, s_isDicTup, s_isDicInt, wipeE_nil, wipeE_cons, h0, m0]
      unfold thR1
      simp only [s_sSeq, s_sNil, s_sRet, s_sRetT, s_sIf, s_sAsg, s_sPar, s_sSetM, s_cND, s_cC, s_cB, s_cU, s_cTup, s_cLst, s_cNil, s_cCons, s_cCall, s_cFn, s_cIx, s_cAnd, s_cOr, s_cNot, s_cIf, s_cTr, s_cBT, s_cAndT, s_cOrT, s_cNotT, s_cCh, s_cChT, s_cSl, s_sFor, s_cWalk, s_cLc, s_lcOne, s_cTrue, s_sApp, s_gN, s_gT, s_gsNil, s_gsCons, s_cV0, s_cVs, s_finR, s_finN, s_boolD, s_truB, s_setAll0, s_setAll1, s_op1, s_op2, s_abs, s_addI, s_subI, eqI, neI, ltI, gtI, leI, geI, mkTup1, mkTup2, mkTup3, idx_t0, idx_t1, idx_t2, obS, omS, List.set_cons_zero, List.set_cons_succ, s_cNone, s_cPart, s_intD, s_cRng1, s_walkL, s_walkT, s_lenT, s_lenL, s_lenS, s_slT, s_slL, if_true, if_false, decide_true, decide_false, Bool.not_true, Bool.not_false, Bool.and_true, Bool.and_false, Bool.true_and, Bool.false_and, Bool.false_eq_true, decide_eq_true_eq, s_cEnum, s_sPut, s_revL, s_revT, s_listL, s_listT, s_tupleL, s_tupleT, s_isDicLst, s_isDicTup, s_isDicInt, wipeE_nil, wipeE_cons, a1, h1, m1, a2, h2, m2, sb, pw, mk3, hf]
    rw [E0]
    by_cases c0 : (q : Int) < 4 ∨ (3 : Int) < (deep : Int)
    · refine ⟨.int far, ?_, .int _ _⟩
      by_cases c1 : (q : Int) < 4
      · simp only [s_sSeq, s_sNil, s_sRet, s_sRetT, s_sIf, s_sAsg, s_sPar, s_sSetM, s_cND, s_cC, s_cB, s_cU, s_cTup, s_cLst, s_cNil, s_cCons, s_cCall, s_cFn, s_cIx, s_cAnd, s_cOr, s_cNot, s_cIf, s_cTr, s_cBT, s_cAndT, s_cOrT, s_cNotT, s_cCh, s_cChT, s_cSl, s_sFor, s_cWalk, s_cLc, s_lcOne, s_cTrue, s_sApp, s_gN, s_gT, s_gsNil, s_gsCons, s_cV0, s_cVs, s_finR, s_finN, s_boolD, s_truB, s_setAll0, s_setAll1, s_op1, s_op2, s_abs, s_addI, s_subI, eqI, neI, ltI, gtI, leI, geI, mkTup1, mkTup2, mkTup3, idx_t0, idx_t1, idx_t2, obS, omS, List.set_cons_zero, List.set_cons_succ, s_cNone, s_cPart, s_intD, s_cRng1, s_walkL, s_walkT, s_lenT, s_lenL, s_lenS, s_slT, s_slL, if_true, if_false, decide_true, decide_false, Bool.not_true, Bool.not_false, Bool.and_true, Bool.and_false, Bool.true_and, Bool.false_and, Bool.false_eq_true, decide_eq_true_eq, s_cEnum, s_sPut, s_revL, s_revT, s_listL, s_listT, s_tupleL, s_tupleT, s_isDicLst, s_isDicTup, s_isDicInt, wipeE_nil, wipeE_cons, thR2, lt4, gt3, c1]
      · have c2 := c0.resolve_left c1
        simp only [s_sSeq, s_sNil, s_sRet, s_sRetT, s_sIf, s_sAsg, s_sPar, s_sSetM, s_cND, s_cC, s_cB, s_cU, s_cTup, s_cLst, s_cNil, s_cCons, s_cCall, s_cFn, s_cIx, s_cAnd, s_cOr, s_cNot, s_cIf, s_cTr, s_cBT, s_cAndT, s_cOrT, s_cNotT, s_cCh, s_cChT, s_cSl, s_sFor, s_cWalk, s_cLc, s_lcOne, s_cTrue, s_sApp, s_gN, s_gT, s_gsNil, s_gsCons, s_cV0, s_cVs, s_finR, s_finN, s_boolD, s_truB, s_setAll0, s_setAll1, s_op1, s_op2, s_abs, s_addI, s_subI, eqI, neI, ltI, gtI, leI, geI, mkTup1, mkTup2, mkTup3, idx_t0, idx_t1, idx_t2, obS, omS, List.set_cons_zero, List.set_cons_succ, s_cNone, s_cPart, s_intD, s_cRng1, s_walkL, s_walkT, s_lenT, s_lenL, s_lenS, s_slT, s_slL, if_true, if_false, decide_true, decide_false, Bool.not_true, Bool.not_false, Bool.and_true, Bool.and_false, Bool.true_and, Bool.false_and, Bool.false_eq_true, decide_eq_true_eq, s_cEnum, s_sPut, s_revL, s_revT, s_listL, s_listT, s_tupleL, s_tupleT, s_isDicLst, s_isDicTup, s_isDicInt, wipeE_nil, wipeE_cons, thR2, lt4, gt3, c1, c2]
    · have c1 : ¬ (q : Int) < 4 := fun z => c0 (.inl z)
      have c2 : ¬ (3 : Int) < (deep : Int) := fun z => c0 (.inr z)
      have hdp : deep < 4 := by omega
      have E2 : ∀ ρ, ρ = [some (.lst (ds.map natD)), some (natD deep), some (natD q), some (.int far), none, none] → thR2 (lvl (DT rows) n) ρ = thR3 (lvl (DT rows) n) ρ := by
        intro ρ hρ
        subst hρ
        unfold thR2
        simp only [s_sSeq, s_sNil, s_sRet, s_sRetT, s_sIf, s_sAsg, s_sPar, s_sSetM, s_cND, s_cC, s_cB, s_cU, s_cTup, s_cLst, s_cNil, s_cCons, s_cCall, s_cFn, s_cIx, s_cAnd, s_cOr, s_cNot, s_cIf, s_cTr, s_cBT, s_cAndT, s_cOrT, s_cNotT, s_cCh, s_cChT, s_cSl, s_sFor, s_cWalk, s_cLc, s_lcOne, s_cTrue, s_sApp, s_gN, s_gT, s_gsNil, s_gsCons, s_cV0, s_cVs, s_finR, s_finN, s_boolD, s_truB, s_setAll0, s_setAll1, s_op1, s_op2, s_abs, s_addI, s_subI, eqI, neI, ltI, gtI, leI, geI, mkTup1, mkTup2, mkTup3, idx_t0, idx_t1, idx_t2, obS, omS, List.set_cons_zero, List.set_cons_succ, s_cNone, s_cPart, s_intD, s_cRng1, s_walkL, s_walkT, s_lenT, s_lenL, s_lenS, s_slT, s_slL, if_true, if_false, decide_true, decide_false, Bool.not_true, Bool.not_false, Bool.and_true, Bool.and_false, Bool.true_and, Bool.false_and, Bool.false_eq_true, decide_eq_true_eq, s_cEnum, s_sPut, s_revL, s_revT, s_listL, s_listT, s_tupleL, s_tupleT, s_isDicLst, s_isDicTup, s_isDicInt, wipeE_nil, wipeE_cons, lt4, gt3, c1, c2]
      rw [E2 _ rfl]
      by_cases c3 : (q : Int) < 7
      · have sq : subD (natD q) (.int 4) = some (natD (q - 4)) := by
          show some (D.int ((q : Int) - 4)) = some (D.int ((q - 4 : Nat) : Int))
          congr 2; omega
        obtain ⟨r, hr, hs⟩ : ∃ r, idxD (.lst [.bl true, .bl false, .non]) (natD (q - 4)) = some r ∧ Sm (4 - deep) K r := by
          have l5 : q - 4 < 3 := by omega
          generalize q - 4 = i at *
          match i, l5 with
          | 0, _ => exact ⟨_, rfl, .bl _ _⟩
          | 1, _ => exact ⟨_, rfl, .bl _ _⟩
          | 2, _ => exact ⟨_, rfl, .non _⟩
        refine ⟨r, ?_, hs⟩
        simp only [s_sSeq, s_sNil, s_sRet, s_sRetT, s_sIf, s_sAsg, s_sPar, s_sSetM, s_cND, s_cC, s_cB, s_cU, s_cTup, s_cLst, s_cNil, s_cCons, s_cCall, s_cFn, s_cIx, s_cAnd, s_cOr, s_cNot, s_cIf, s_cTr, s_cBT, s_cAndT, s_cOrT, s_cNotT, s_cCh, s_cChT, s_cSl, s_sFor, s_cWalk, s_cLc, s_lcOne, s_cTrue, s_sApp, s_gN, s_gT, s_gsNil, s_gsCons, s_cV0, s_cVs, s_finR, s_finN, s_boolD, s_truB, s_setAll0, s_setAll1, s_op1, s_op2, s_abs, s_addI, s_subI, eqI, neI, ltI, gtI, leI, geI, mkTup1, mkTup2, mkTup3, idx_t0, idx_t1, idx_t2, obS, omS, List.set_cons_zero, List.set_cons_succ, s_cNone, s_cPart, s_intD, s_cRng1, s_walkL, s_walkT, s_lenT, s_lenL, s_lenS, s_slT, s_slL, if_true, if_false, decide_true, decide_false, Bool.not_true, Bool.not_false, Bool.and_true, Bool.and_false, Bool.true_and, Bool.false_and, Bool.false_eq_true, decide_eq_true_eq, s_cEnum, s_sPut, s_revL, s_revT, s_listL, s_listT, s_tupleL, s_tupleT, s_isDicLst, s_isDicTup, s_isDicInt, wipeE_nil, wipeE_cons, thR3, lt7, c3, sq, mk3, hr]
      have E3 : ∀ ρ, ρ = [some (.lst (ds.map natD)), some (natD deep), some (natD q), some (.int far), none, none] → thR3 (lvl (DT rows) n) ρ = thR4 (lvl (DT rows) n) ρ := by
        intro ρ hρ
        subst hρ
        unfold thR3
        simp only [s_sSeq, s_sNil, s_sRet, s_sRetT, s_sIf, s_sAsg, s_sPar, s_sSetM, s_cND, s_cC, s_cB, s_cU, s_cTup, s_cLst, s_cNil, s_cCons, s_cCall, s_cFn, s_cIx, s_cAnd, s_cOr, s_cNot, s_cIf, s_cTr, s_cBT, s_cAndT, s_cOrT, s_cNotT, s_cCh, s_cChT, s_cSl, s_sFor, s_cWalk, s_cLc, s_lcOne, s_cTrue, s_sApp, s_gN, s_gT, s_gsNil, s_gsCons, s_cV0, s_cVs, s_finR, s_finN, s_boolD, s_truB, s_setAll0, s_setAll1, s_op1, s_op2, s_abs, s_addI, s_subI, eqI, neI, ltI, gtI, leI, geI, mkTup1, mkTup2, mkTup3, idx_t0, idx_t1, idx_t2, obS, omS, List.set_cons_zero, List.set_cons_succ, s_cNone, s_cPart, s_intD, s_cRng1, s_walkL, s_walkT, s_lenT, s_lenL, s_lenS, s_slT, s_slL, if_true, if_false, decide_true, decide_false, Bool.not_true, Bool.not_false, Bool.and_true, Bool.and_false, Bool.true_and, Bool.false_and, Bool.false_eq_true, decide_eq_true_eq, s_cEnum, s_sPut, s_revL, s_revT, s_listL, s_listT, s_tupleL, s_tupleT, s_isDicLst, s_isDicTup, s_isDicInt, wipeE_nil, wipeE_cons, lt7, c3]
      rw [E3 _ rfl]
      by_cases c4 : (q : Int) < 9
      · obtain ⟨r, hr, hs⟩ : ∃ r, idxD (.lst [.str "", .str "0", .str "1-0", .str "hall", .str "3", .str "none", .str "1:", .str "~"]) (natD (v3 % 8)) = some r ∧ Sm (4 - deep) K r := by
          generalize v3 % 8 = i at *
          match i, l3 with
          | 0, _ => exact ⟨_, rfl, .str _ _⟩
          | 1, _ => exact ⟨_, rfl, .str _ _⟩
          | 2, _ => exact ⟨_, rfl, .str _ _⟩
          | 3, _ => exact ⟨_, rfl, .str _ _⟩
          | 4, _ => exact ⟨_, rfl, .str _ _⟩
          | 5, _ => exact ⟨_, rfl, .str _ _⟩
          | 6, _ => exact ⟨_, rfl, .str _ _⟩
          | 7, _ => exact ⟨_, rfl, .str _ _⟩
        refine ⟨r, ?_, hs⟩
        simp only [s_sSeq, s_sNil, s_sRet, s_sRetT, s_sIf, s_sAsg, s_sPar, s_sSetM, s_cND, s_cC, s_cB, s_cU, s_cTup, s_cLst, s_cNil, s_cCons, s_cCall, s_cFn, s_cIx, s_cAnd, s_cOr, s_cNot, s_cIf, s_cTr, s_cBT, s_cAndT, s_cOrT, s_cNotT, s_cCh, s_cChT, s_cSl, s_sFor, s_cWalk, s_cLc, s_lcOne, s_cTrue, s_sApp, s_gN, s_gT, s_gsNil, s_gsCons, s_cV0, s_cVs, s_finR, s_finN, s_boolD, s_truB, s_setAll0, s_setAll1, s_op1, s_op2, s_abs, s_addI, s_subI, eqI, neI, ltI, gtI, leI, geI, mkTup1, mkTup2, mkTup3, idx_t0, idx_t1, idx_t2, obS, omS, List.set_cons_zero, List.set_cons_succ, s_cNone, s_cPart, s_intD, s_cRng1, s_walkL, s_walkT, s_lenT, s_lenL, s_lenS, s_slT, s_slL, if_true, if_false, decide_true, decide_false, Bool.not_true, Bool.not_false, Bool.and_true, Bool.and_false, Bool.true_and, Bool.false_and, Bool.false_eq_true, decide_eq_true_eq, s_cEnum, s_sPut, s_revL, s_revT, s_listL, s_listT, s_tupleL, s_tupleT, s_isDicLst, s_isDicTup, s_isDicInt, wipeE_nil, wipeE_cons, thR4, lt9, c4, a3, h3, m3, mk8, hr]
      · have E4 : ∀ ρ, ρ = [some (.lst (ds.map natD)), some (natD deep), some (natD q), some (.int far), none, none] → thR4 (lvl (DT rows) n) ρ = thR5 (lvl (DT rows) n) ρ := by
          intro ρ hρ
          subst hρ
          unfold thR4
          simp only [s_sSeq, s_sNil, s_sRet, s_sRetT, s_sIf, s_sAsg, s_sPar, s_sSetM, s_cND, s_cC, s_cB, s_cU, s_cTup, s_cLst, s_cNil, s_cCons, s_cCall, s_cFn, s_cIx, s_cAnd, s_cOr, s_cNot, s_cIf, s_cTr, s_cBT, s_cAndT, s_cOrT, s_cNotT, s_cCh, s_cChT, s_cSl, s_sFor, s_cWalk, s_cLc, s_lcOne, s_cTrue, s_sApp, s_gN, s_gT, s_gsNil, s_gsCons, s_cV0, s_cVs, s_finR, s_finN, s_boolD, s_truB, s_setAll0, s_setAll1, s_op1, s_op2, s_abs, s_addI, s_subI, eqI, neI, ltI, gtI, leI, geI, mkTup1, mkTup2, mkTup3, idx_t0, idx_t1, idx_t2, obS, omS, List.set_cons_zero, List.set_cons_succ, s_cNone, s_cPart, s_intD, s_cRng1, s_walkL, s_walkT, s_lenT, s_lenL, s_lenS, s_slT, s_slL, if_true, if_false, decide_true, decide_false, Bool.not_true, Bool.not_false, Bool.and_true, Bool.and_false, Bool.true_and, Bool.false_and, Bool.false_eq_true, decide_eq_true_eq, s_cEnum, s_sPut, s_revL, s_revT, s_listL, s_listT, s_tupleL, s_tupleT, s_isDicLst, s_isDicTup, s_isDicInt, wipeE_nil, wipeE_cons, lt9, c4]
        rw [E4 _ rfl]
        have hrng : rng1D (natD (v4 % 4)) = some ((List.range (v4 % 4)).map natD) := rng1_ev (by omega)
        have hsub : ∀ j : Nat, j < v4 % 4 → slcD (some (j : Int)) none (.lst (ds.map natD)) = some (.lst ((ds.drop j).map natD)) ∧ slcD none (some (j : Int)) (.lst (ds.map natD)) = some (.lst ((ds.take j).map natD)) ∧ addD (.lst ((ds.drop j).map natD)) (.lst ((ds.take j).map natD)) = some (.lst ((ds.drop j ++ ds.take j).map natD)) := by
          intro j hj
          refine ⟨?_, ?_, ?_⟩
          · rw [s_slL, cut_from, List.map_drop]
          · rw [s_slL, cut_to, List.map_take]
          · rw [add_lst (by simp only [List.length_map, List.length_drop, List.length_take]; omega), List.map_append]
        obtain ⟨ys, y1, y2, y3⟩ := lc_ex (α := Nat) (one := lcOne (gN 5) cTrue (cFn "_law_thing" (cCons (cB addD (cSl (cV 0) (cPart (cV 5)) cNone) (cSl (cV 0) cNone (cPart (cV 5)))) (cCons (cB addD (cV 1) (cC (.int 1))) cNil))) (lvl (DT rows) n) [some (.lst (ds.map natD)), some (natD deep), some (natD q), some (.int far), none, none]) (P := fun _ y => Sm (4 - (deep + 1)) (4 ^ (4 - (deep + 1))) y) (f := natD) (l := List.range (v4 % 4)) (by
          intro j hj
          have hj := List.mem_range.mp hj
          obtain ⟨r, r1, r2⟩ := ih hdp j (by omega)
          obtain ⟨s1, s2, s3⟩ := hsub j hj
          refine ⟨r, ?_, r2⟩
          have id' : intD (natD j) = some (j : Int) := rfl
          generalize lvl (DT rows) n = F at *
          simp only [s_sSeq, s_sNil, s_sRet, s_sRetT, s_sIf, s_sAsg, s_sPar, s_sSetM, s_cND, s_cC, s_cB, s_cU, s_cTup, s_cLst, s_cNil, s_cCons, s_cCall, s_cFn, s_cIx, s_cAnd, s_cOr, s_cNot, s_cIf, s_cTr, s_cBT, s_cAndT, s_cOrT, s_cNotT, s_cCh, s_cChT, s_cSl, s_sFor, s_cWalk, s_cLc, s_lcOne, s_cTrue, s_sApp, s_gN, s_gT, s_gsNil, s_gsCons, s_cV0, s_cVs, s_finR, s_finN, s_boolD, s_truB, s_setAll0, s_setAll1, s_op1, s_op2, s_abs, s_addI, s_subI, eqI, neI, ltI, gtI, leI, geI, mkTup1, mkTup2, mkTup3, idx_t0, idx_t1, idx_t2, obS, omS, List.set_cons_zero, List.set_cons_succ, s_cNone, s_cPart, s_intD, s_cRng1, s_walkL, s_walkT, s_lenT, s_lenL, s_lenS, s_slT, s_slL, if_true, if_false, decide_true, decide_false, Bool.not_true, Bool.not_false, Bool.and_true, Bool.and_false, Bool.true_and, Bool.false_and, Bool.false_eq_true, decide_eq_true_eq, s_cEnum, s_sPut, s_revL, s_revT, s_listL, s_listT, s_tupleL, s_tupleT, s_isDicLst, s_isDicTup, s_isDicInt, wipeE_nil, wipeE_cons, id', s1, s2, s3, a1, r1])
        have yl : ys.length ≤ 3 := by rw [y1, List.length_range]; omega
        have ysm : ∀ y ∈ ys, pq (4 - (deep + 1)) y = true ∧ nd y ≤ 4 ^ (4 - (deep + 1)) := fun y hy => by
          obtain ⟨_, _, h⟩ := y3 y hy
          exact ⟨h.d, h.n⟩
        have yn : ndL ys ≤ 3 * 4 ^ (4 - (deep + 1)) := by
          have gen : ∀ (l : List D) (b : Nat), (∀ y ∈ l, nd y ≤ b) → ndL l ≤ l.length * b := by
            intro l b
            induction l with
            | nil => intro _; simp [ndL]
            | cons d l ih => intro h; have := ih fun y hy => h y (List.mem_cons_of_mem _ hy); have := h d List.mem_cons_self; simp only [ndL, List.length_cons]; rw [Nat.succ_mul]; omega
          exact Nat.le_trans (gen ys _ fun y hy => (ysm y hy).2) (Nat.mul_le_mul_right _ yl)
        have hKK := hKK hdp
        have ml : mkLst ys = some (.lst ys) := mkLst_ev (by omega)
        have e4 : 4 - deep = (4 - (deep + 1)) + 1 := by omega
        have lcv : thLc (lvl (DT rows) n) [some (.lst (ds.map natD)), some (natD deep), some (natD q), some (.int far), none, none] = some (.lst ys) := by
          exact thLc_ev _ _ _ _ _ _ _ _ a4 h4 m4 hrng y2 ml
        by_cases c5 : (q : Int) = 9
        · have c5' := eq_true c5
          refine ⟨.lst ys, ?_, by rw [e4]; exact .lst (fun y hy => (ysm y hy).1) (by omega)⟩
          simp only [s_sSeq, s_sNil, s_sRet, s_sRetT, s_sIf, s_sAsg, s_sPar, s_sSetM, s_cND, s_cC, s_cB, s_cU, s_cTup, s_cLst, s_cNil, s_cCons, s_cCall, s_cFn, s_cIx, s_cAnd, s_cOr, s_cNot, s_cIf, s_cTr, s_cBT, s_cAndT, s_cOrT, s_cNotT, s_cCh, s_cChT, s_cSl, s_sFor, s_cWalk, s_cLc, s_lcOne, s_cTrue, s_sApp, s_gN, s_gT, s_gsNil, s_gsCons, s_cV0, s_cVs, s_finR, s_finN, s_boolD, s_truB, s_setAll0, s_setAll1, s_op1, s_op2, s_abs, s_addI, s_subI, eqI, neI, ltI, gtI, leI, geI, mkTup1, mkTup2, mkTup3, idx_t0, idx_t1, idx_t2, obS, omS, List.set_cons_zero, List.set_cons_succ, s_cNone, s_cPart, s_intD, s_cRng1, s_walkL, s_walkT, s_lenT, s_lenL, s_lenS, s_slT, s_slL, if_true, if_false, decide_true, decide_false, Bool.not_true, Bool.not_false, Bool.and_true, Bool.and_false, Bool.true_and, Bool.false_and, Bool.false_eq_true, decide_eq_true_eq, s_cEnum, s_sPut, s_revL, s_revT, s_listL, s_listT, s_tupleL, s_tupleT, s_isDicLst, s_isDicTup, s_isDicInt, wipeE_nil, wipeE_cons, thR5, thR6, lcv, eq9, c5']
        · have c5' := eq_false c5
          refine ⟨.tup ys, ?_, by rw [e4]; exact .tup (fun y hy => (ysm y hy).1) (by omega)⟩
          simp only [s_sSeq, s_sNil, s_sRet, s_sRetT, s_sIf, s_sAsg, s_sPar, s_sSetM, s_cND, s_cC, s_cB, s_cU, s_cTup, s_cLst, s_cNil, s_cCons, s_cCall, s_cFn, s_cIx, s_cAnd, s_cOr, s_cNot, s_cIf, s_cTr, s_cBT, s_cAndT, s_cOrT, s_cNotT, s_cCh, s_cChT, s_cSl, s_sFor, s_cWalk, s_cLc, s_lcOne, s_cTrue, s_sApp, s_gN, s_gT, s_gsNil, s_gsCons, s_cV0, s_cVs, s_finR, s_finN, s_boolD, s_truB, s_setAll0, s_setAll1, s_op1, s_op2, s_abs, s_addI, s_subI, eqI, neI, ltI, gtI, leI, geI, mkTup1, mkTup2, mkTup3, idx_t0, idx_t1, idx_t2, obS, omS, List.set_cons_zero, List.set_cons_succ, s_cNone, s_cPart, s_intD, s_cRng1, s_walkL, s_walkT, s_lenT, s_lenL, s_lenS, s_slT, s_slL, if_true, if_false, decide_true, decide_false, Bool.not_true, Bool.not_false, Bool.and_true, Bool.and_false, Bool.true_and, Bool.false_and, Bool.false_eq_true, decide_eq_true_eq, s_cEnum, s_sPut, s_revL, s_revT, s_listL, s_listT, s_tupleL, s_tupleT, s_isDicLst, s_isDicTup, s_isDicInt, wipeE_nil, wipeE_cons, thR5, thR6, lcv, eq9, c5']
  induction e with
  | zero =>
    intro n deep ds hd hl hu
    obtain ⟨r, h1, h2⟩ := pre n deep ds 1 (by omega) hl (by decide) (fun z => by omega) (fun z => by omega) hu
    rw [show 4 - deep = 0 by omega] at h2
    exact ⟨r, h1, h2⟩
  | succ e ih =>
    intro n deep ds hd hl hu
    have e1 : 4 - (deep + 1) = e := by omega
    have e2 : 4 - deep = e + 1 := by omega
    have hp : 1 + 3 * 4 ^ e ≤ 4 ^ (e + 1) := by rw [Nat.pow_succ]; have : 1 ≤ 4 ^ e := Nat.pos_of_ne_zero (by simp); omega
    obtain ⟨r, h1, h2⟩ := pre (n + (e + 1)) deep ds (4 ^ (e + 1)) (by omega) hl (by omega) (fun _ j hj => by
      rw [e1]
      exact ih n (deep + 1) (ds.drop j ++ ds.take j) (by omega) (by simp only [List.length_append, List.length_drop, List.length_take]; omega) (by simp only [List.length_append, List.length_drop, List.length_take]; omega)) (fun _ => by rw [e1]; exact hp) hu
    rw [e2] at h2
    exact ⟨r, h1, h2⟩
end L
end
section
open PySem PySem.Spec PyProof.Rows L2 RE
namespace RE
open KS
/-! texts in order -/
def ltT (a b : Str) : Prop := a.cps.toList < b.cps.toList
theorem ltT_irr (a : Str) : ¬ ltT a a := List.lt_irrefl _
theorem ltT_nodup {l : List Str} (h : l.Pairwise ltT) : l.Nodup := by
  unfold List.Nodup
  refine h.imp fun {a b} z => ?_
  intro e
  subst e
  exact ltT_irr a z
theorem ltT_uniq {l m : List Str} (hl : l.Pairwise ltT) (hm : m.Pairwise ltT) (h : ∀ x, x ∈ l ↔ x ∈ m) : l = m := by
  have p : l.Perm m := (List.perm_ext_iff_of_nodup (ltT_nodup hl) (ltT_nodup hm)).mpr h
  refine List.Perm.eq_of_pairwise (le := ltT) (fun a b _ _ h1 h2 => ?_) hl hm p
  exact absurd (List.lt_trans h1 h2) (List.lt_irrefl _)
def strK : Key → Str
  | .inr x => x
  | .inl _ => ⟨#[]⟩
/-- some texts, rising, each once -/
noncomputable def srt (ss : List Str) : List Str := (ordK (ss.map Sum.inr)).map strK
theorem str_ext {x y : Str} (e : x.cps.toList = y.cps.toList) : x = y := by
  cases x
  cases y
  exact congrArg Str.mk (Array.toList_inj.mp e)
theorem srt_spec (ss : List Str) : (srt ss).Pairwise ltT ∧ (∀ m, m ∈ srt ss ↔ m ∈ ss) ∧ (srt ss).length ≤ ss.length ∧ (ordK (ss.map Sum.inr)).map keyD = (srt ss).map .str := by
  have mem : ∀ k, k ∈ ordK (ss.map Sum.inr) ↔ k ∈ ss.map Sum.inr := fun k => by
    unfold ordK
    rw [List.mem_mergeSort, nub_mem]
  have nubl : ∀ ks : List Key, (nubK ks).length ≤ ks.length := by
    intro ks
    induction ks with
    | nil => exact Nat.le_refl _
    | cons k ks ih =>
      unfold nubK
      split
      · rw [List.length_cons]; omega
      · rw [List.length_cons, List.length_cons]; omega
  have len : (ordK (ss.map Sum.inr)).length ≤ ss.length := by
    have := nubl (ss.map Sum.inr)
    unfold ordK
    rw [List.length_mergeSort]
    rwa [List.length_map] at this
  have nd : (ordK (ss.map Sum.inr)).Nodup := by
    unfold ordK
    exact (List.mergeSort_perm _ _).nodup_iff.mpr (nub_nodup _)
  have pw : (ordK (ss.map Sum.inr)).Pairwise fun a b => leK a b = true := by
    unfold ordK
    exact List.pairwise_mergeSort leK_tot.trans (fun a b => by rw [Bool.or_eq_true]; exact leK_tot.total a b) _
  unfold srt
  generalize ordK (ss.map Sum.inr) = os at *
  have back : ∀ k ∈ os, ∃ i : Str, i ∈ ss ∧ k = .inr i := fun k h => by
    obtain ⟨i, hi, rfl⟩ := List.mem_map.mp ((mem k).mp h)
    exact ⟨i, hi, rfl⟩
  refine ⟨?_, fun m => ⟨fun h => ?_, fun h => ?_⟩, by rw [List.length_map]; exact len, ?_⟩
  · rw [List.pairwise_map]
    have := List.pairwise_and_iff.mpr ⟨pw, nd⟩
    refine this.imp_of_mem fun {a b} ha hb h => ?_
    obtain ⟨i, _, rfl⟩ := back a ha
    obtain ⟨j, _, rfl⟩ := back b hb
    obtain ⟨h1, h2⟩ := h
    rw [leK_str, decide_eq_true_eq] at h1
    have ne : i ≠ j := fun z => h2 (by rw [z])
    show i.cps.toList < j.cps.toList
    refine Classical.byContradiction fun q => ne (str_ext (List.le_antisymm h1 (List.not_lt.mp q)))
  · obtain ⟨k, hk, rfl⟩ := List.mem_map.mp h
    obtain ⟨i, hi, rfl⟩ := back k hk
    exact hi
  · exact List.mem_map.mpr ⟨.inr m, (mem _).mpr (List.mem_map.mpr ⟨m, h, rfl⟩), rfl⟩
  · rw [List.map_map]
    refine List.map_congr_left fun k h => ?_
    obtain ⟨i, _, rfl⟩ := back k h
    rfl
theorem keysA_strs (ss : List Str) : keysA (ss.map .str) = some (ss.map Sum.inr) := by
  have := keysA_map (ss.map Sum.inr)
  rwa [List.map_map] at this
theorem setSort_strs {ss : List Str} (hl : ss.length ≤ 900) : setSortL (ss.map .str) = some (.lst ((srt ss).map .str)) := by
  unfold setSortL
  rw [keysA_strs, obS]
  have : oneKd (ss.map Sum.inr) = true := by
    unfold oneKd
    rw [Bool.or_eq_true, List.all_eq_true, List.all_eq_true]
    right
    intro k h
    obtain ⟨i, _, rfl⟩ := List.mem_map.mp h
    rfl
  rw [this, List.length_map, decide_eq_true hl]
  rw [if_pos (by rfl), (srt_spec ss).2.2.2]
theorem srt_perm {ss : List Str} (nd : ss.Nodup) : (srt ss).Perm ss := (List.perm_ext_iff_of_nodup (ltT_nodup (srt_spec ss).1) nd).mpr (srt_spec ss).2.1
theorem sortL_strs {ss : List Str} (nd : ss.Nodup) : sortL (ss.map .str) = (srt ss).map .str := by
  refine (sortedS_L (srt_perm nd) (sortedS_of_pairwise _ ((srt_spec ss).1.imp fun {a b} h => ?_))).symm
  rw [ltCps_eq, decide_eq_false_iff_not]
  exact fun z => absurd (List.lt_trans h z) (List.lt_irrefl _)
theorem srt_congr {a b : List Str} (h : ∀ x, x ∈ a ↔ x ∈ b) : srt a = srt b := ltT_uniq (srt_spec a).1 (srt_spec b).1 fun x => by rw [(srt_spec a).2.1, (srt_spec b).2.1, h]
/-! dicts by names -/
def asD {α : Type} (f : α → D) (L : List (Str × α)) : D := .dic false (L.map fun z => (.str z.1, f z.2))
def getA {α : Type} (L : List (Str × α)) (n : Str) : Option α := (L.find? fun z => decide (z.1 = n)).map (·.2)
theorem getA_cons {α : Type} (z : Str × α) (L : List (Str × α)) (n : Str) : getA (z :: L) n = if z.1 = n then some z.2 else getA L n := by
  unfold getA
  rw [List.find?_cons]
  by_cases h : z.1 = n
  · simp [h]
  · simp [h]
theorem getA_app {α : Type} (L M : List (Str × α)) (n : Str) : getA (L ++ M) n = (getA L n).or (getA M n) := by
  induction L with
  | nil => simp [getA]
  | cons z L ih =>
    rw [List.cons_append, getA_cons, getA_cons]
    split
    · rfl
    · exact ih
theorem getA_none {α : Type} {L : List (Str × α)} {n : Str} : getA L n = none ↔ n ∉ L.map (·.1) := by
  induction L with
  | nil => simp [getA]
  | cons z L ih =>
    rw [getA_cons, List.map_cons, List.mem_cons]
    by_cases h : z.1 = n
    · rw [if_pos h]
      exact ⟨fun z => (nomatch z), fun q => absurd (.inl h.symm) q⟩
    · rw [if_neg h, ih]
      exact ⟨fun q z => z.elim (fun e => h e.symm) q, fun q z => q (.inr z)⟩
theorem getA_mem {α : Type} {L : List (Str × α)} {n : Str} {a : α} (h : getA L n = some a) : (n, a) ∈ L := by
  unfold getA at h
  obtain ⟨z, h1, rfl⟩ := Option.map_eq_some_iff.mp h
  have h2 := List.find?_some h1
  have : z.1 = n := of_decide_eq_true h2
  rw [← this]
  exact List.mem_of_find?_eq_some h1
theorem getA_of {α : Type} {L : List (Str × α)} (nd : (L.map (·.1)).Nodup) {n : Str} {a : α} (h : (n, a) ∈ L) : getA L n = some a := by
  induction L with
  | nil => cases h
  | cons z L ih =>
    rw [List.map_cons, List.nodup_cons] at nd
    rw [getA_cons]
    rcases List.mem_cons.mp h with rfl | h
    · rw [if_pos rfl]
    · rw [if_neg fun e => nd.1 (List.mem_map.mpr ⟨(n, a), h, e.symm⟩)]
      exact ih nd.2 h
theorem keyA_str (s : Str) : keyA (.str s) = some (.inr s) := rfl
theorem dget_as {α : Type} (f : α → D) (L : List (Str × α)) (n : Str) : dget false (L.map fun z => (D.str z.1, f z.2)) (.str n) = some ((getA L n).map f) := by
  unfold dget getA
  simp only [keyA_str, Option.map_some]
  congr 1
  rw [List.find?_map, Option.map_map, Option.map_map]
  have e : ((fun p : D × D => decide (keyA p.1 = some (Sum.inr n))) ∘ fun z : Str × α => (D.str z.1, f z.2)) = fun z => decide (z.1 = n) := by
    funext z
    simp [keyA_str]
  rw [e]
  rfl
theorem in_as {α : Type} (f : α → D) (L : List (Str × α)) (n : Str) : inD (.str n) (asD f L) = some (.bl (getA L n).isSome) := by
  have : inB (.str n) (asD f L) = (dget false (L.map fun z => (D.str z.1, f z.2)) (.str n)).map fun o => o.isSome := rfl
  unfold inD
  rw [this, dget_as]
  cases getA L n <;> rfl
theorem notin_as {α : Type} (f : α → D) (L : List (Str × α)) (n : Str) : notInD (.str n) (asD f L) = some (.bl (!(getA L n).isSome)) := by
  have : inB (.str n) (asD f L) = (dget false (L.map fun z => (D.str z.1, f z.2)) (.str n)).map fun o => o.isSome := rfl
  unfold notInD
  rw [this, dget_as]
  cases getA L n <;> rfl
theorem idx_as {α : Type} (f : α → D) {L : List (Str × α)} {n : Str} {a : α} (h : getA L n = some a) : idxD (asD f L) (.str n) = some (f a) := by
  have : idxD (asD f L) (.str n) = (dget false (L.map fun z => (D.str z.1, f z.2)) (.str n)).bind id := rfl
  rw [this, dget_as, h]
  rfl
theorem put_as {α : Type} (f : α → D) {L : List (Str × α)} {n : Str} (h : getA L n = none) (hl : L.length ≤ 100000) (a : α) : putD (asD f L) (.str n) (f a) = some (asD f (L ++ [(n, a)])) := by
  have e : putD (asD f L) (.str n) (f a) = if fits ((L.map fun z => (D.str z.1, f z.2)).length + 1) then (dput false (L.map fun z => (D.str z.1, f z.2)) (.str n) (f a)).map fun q => .dic false q else none := rfl
  have hf : fits ((L.map fun z => (D.str z.1, f z.2)).length + 1) = true := by
    rw [List.length_map]
    unfold fits
    exact decide_eq_true (by rw [sizeLine_eq]; omega)
  rw [e, hf, if_pos rfl]
  unfold dput
  simp only [keyA_str, Option.map_some]
  have : ((L.map fun z => (D.str z.1, f z.2)).any fun p => decide (keyA p.1 = some (Sum.inr n))) = false := by
    rw [List.any_map, List.any_eq_false]
    intro z hz
    have hn := getA_none.mp h
    have : z.1 ≠ n := fun e => hn (List.mem_map.mpr ⟨z, hz, e⟩)
    simp [keyA_str, this]
  rw [this, if_neg (by simp)]
  unfold asD
  rw [List.map_append]
  rfl
theorem merge_as {α : Type} (f : α → D) : ∀ {M L : List (Str × α)}, ((L ++ M).map (·.1)).Nodup → mergeD (L.map fun z => (D.str z.1, f z.2)) (M.map fun z => (D.str z.1, f z.2)) = some ((L ++ M).map fun z => (D.str z.1, f z.2))
  | [], L, _ => by rw [List.append_nil]; rfl
  | z :: M, L, nd => by
    rw [List.map_cons, mergeD]
    have hn : getA L z.1 = none := getA_none.mpr fun hm => by
      rw [List.map_append, List.map_cons] at nd
      exact (List.nodup_append.mp nd).2.2 _ hm _ List.mem_cons_self rfl
    have e : dput false (L.map fun z => (D.str z.1, f z.2)) (.str z.1) (f z.2) = some ((L ++ [z]).map fun z => (D.str z.1, f z.2)) := by
      unfold dput
      simp only [keyA_str, Option.map_some]
      have : ((L.map fun z => (D.str z.1, f z.2)).any fun p => decide (keyA p.1 = some (Sum.inr z.1))) = false := by
        rw [List.any_map, List.any_eq_false]
        intro y hy
        have hn := getA_none.mp hn
        have : y.1 ≠ z.1 := fun e => hn (List.mem_map.mpr ⟨y, hy, e⟩)
        simp [keyA_str, this]
      rw [this, if_neg (by simp), List.map_append]
      rfl
    rw [e, obS]
    have := merge_as f (M := M) (L := L ++ [z]) (by rw [List.append_assoc]; exact nd)
    rw [this, List.append_assoc]
    rfl
theorem upd_as {α : Type} (f : α → D) {M L : List (Str × α)} (nd : ((L ++ M).map (·.1)).Nodup) (hl : (L ++ M).length ≤ 100000) : updD (asD f L) (asD f M) = some (asD f (L ++ M)) := by
  have e : updD (asD f L) (asD f M) = if fits ((L.map fun z => (D.str z.1, f z.2)).length + (M.map fun z => (D.str z.1, f z.2)).length) then (mergeD (L.map fun z => (D.str z.1, f z.2)) (M.map fun z => (D.str z.1, f z.2))).map (.dic false) else none := rfl
  rw [e, fits_of (by rw [List.length_map, List.length_map]; rw [List.length_append] at hl; omega), if_pos rfl, merge_as f nd]
  rfl
theorem sort_as {α : Type} (f : α → D) {L : List (Str × α)} (nd : (L.map (·.1)).Nodup) (hl : L.length < 64) : sortedD (asD f L) = some (.lst ((srt (L.map (·.1))).map .str)) := by
  have e : sortedD (asD f L) = if ((L.map fun z => (D.str z.1, f z.2)).map (·.1)).all isStr1 && decide ((L.map fun z => (D.str z.1, f z.2)).length < 64) then some (.lst (sortL ((L.map fun z => (D.str z.1, f z.2)).map (·.1)))) else none := rfl
  have e2 : (L.map fun z => (D.str z.1, f z.2)).map (·.1) = (L.map (·.1)).map D.str := by rw [List.map_map, List.map_map]; rfl
  rw [e, e2, sortL_strs nd, if_pos]
  rw [Bool.and_eq_true, List.all_eq_true]
  refine ⟨fun x hx => ?_, decide_eq_true (by rw [List.length_map]; exact hl)⟩
  obtain ⟨s, _, rfl⟩ := List.mem_map.mp hx
  rfl
theorem ne_as {α : Type} (f : α → D) (L : List (Str × α)) : neD (asD f L) (.dic false []) = some (.bl (!L.isEmpty)) := by
  have p1 : pd2 (asD f L) (.dic false []) = false := rfl
  have e : neDic (asD f L) (.dic false []) = some (.bl (!(L.map fun z => (D.str z.1, f z.2)).isEmpty)) := rfl
  unfold neD
  rw [p1, if_neg (by simp), e]
  cases L <;> rfl
theorem keys_as {α : Type} (f : α → D) (L : List (Str × α)) (i : Nat) (F : Fn) (ρ : RE.Env) (h : ρ[i]? = some (some (asD f L))) : cKeys i F ρ = some ((L.map (·.1)).map .str) := by
  unfold cKeys
  rw [h]
  show some ((L.map fun z => (D.str z.1, f z.2)).map (·.1)) = _
  rw [List.map_map, List.map_map]
  rfl
theorem items_as {α : Type} (f : α → D) (L : List (Str × α)) (i : Nat) (F : Fn) (ρ : RE.Env) (h : ρ[i]? = some (some (asD f L))) : cItems i F ρ = some (L.map fun z => .tup [.str z.1, f z.2]) := by
  unfold cItems
  rw [h]
  show some ((L.map fun z => (D.str z.1, f z.2)).map fun kv => D.tup [kv.1, kv.2]) = _
  rw [List.map_map]
  rfl
/-- a dict made row by row -/
theorem dc_as {α β : Type} {one : D → Option (Option (D × D))} {g : β → D} {f : α → D} {h : β → Option (Str × α)} : ∀ {M : List β} {L : List (Str × α)}, (∀ b ∈ M, one (g b) = some ((h b).map fun z => (.str z.1, f z.2))) → ((L ++ M.filterMap h).map (·.1)).Nodup → (L ++ M.filterMap h).length ≤ 100000 → dcFold one (asD f L) (M.map g) = some (asD f (L ++ M.filterMap h))
  | [], L, _, _, _ => by rw [List.filterMap_nil, List.append_nil]; rfl
  | b :: M, L, ho, nd, hl => by
    rw [List.map_cons, dcFold, ho b List.mem_cons_self, obS]
    cases hb : h b with
    | none =>
      rw [List.filterMap_cons_none hb] at nd hl ⊢
      show (some (asD f L)).bind _ = _
      rw [obS]
      exact dc_as (fun c hc => ho c (List.mem_cons_of_mem _ hc)) nd hl
    | some z =>
      rw [List.filterMap_cons_some hb] at nd hl ⊢
      have hn : getA L z.1 = none := getA_none.mpr fun hm => by
        rw [List.map_append, List.map_cons] at nd
        exact (List.nodup_append.mp nd).2.2 _ hm _ List.mem_cons_self rfl
      have e : dcPut (asD f L) (Option.map (fun z => (D.str z.1, f z.2)) (some z)) = some (asD f (L ++ [z])) := by
        show putD (asD f L) (.str z.1) (f z.2) = _
        rw [List.length_append] at hl
        exact put_as f hn (by omega) z.2
      rw [e, obS]
      have := dc_as (M := M) (L := L ++ [z]) (fun c hc => ho c (List.mem_cons_of_mem _ hc)) (by rw [List.append_assoc]; exact nd) (by rw [List.append_assoc]; exact hl)
      rw [this, List.append_assoc]
      rfl
end RE
end
section
open PySem PySem.Spec PyProof.Rows L2 RE
namespace RE
def isNumB (lo hi : Int) : D → Bool
  | .int i => decide (lo ≤ i) && decide (i ≤ hi)
  | _ => false
def isSpotB (far : Int) : D → Bool
  | .tup [a, b] => isNumB (0 - far) far a && isNumB (0 - far) far b
  | _ => false
def isDirB : D → Bool
  | .tup [.int a, .int b] => isSpotB 200 (.tup [.int a, .int b]) && decide (Int.gcd a b = 1)
  | _ => false
/-- plain to the top: it has a type that isinstance knows -/
theorem ty_int {m : Nat} {x : D} (h : pd m x = true) : (∃ i, x = .int i) ∨ ((∀ i, x ≠ .int i) ∧ (isiD ["int"] x = some (.bl false) ∨ (isiD ["int"] x = some (.bl true) ∧ isiD ["bool"] x = some (.bl true)))) := by
  cases x with
  | int i => exact .inl ⟨i, rfl⟩
  | non => exact .inr ⟨fun i h => (by cases h), .inl rfl⟩
  | bl b => exact .inr ⟨fun i h => (by cases h), .inr ⟨rfl, rfl⟩⟩
  | str s => exact .inr ⟨fun i h => (by cases h), .inl rfl⟩
  | tup xs => exact .inr ⟨fun i h => (by cases h), .inl rfl⟩
  | lst xs => exact .inr ⟨fun i h => (by cases h), .inl rfl⟩
  | dic _ _ => cases m <;> simp [pd] at h
  | scr _ => cases m <;> simp [pd] at h
  | fn _ => cases m <;> simp [pd] at h
theorem ty_tup {m : Nat} {x : D} (h : pd m x = true) : (∃ xs, x = .tup xs ∧ ∀ y ∈ xs, pd (m - 1) y = true) ∨ ((∀ xs, x ≠ .tup xs) ∧ isiD ["tuple"] x = some (.bl false)) := by
  cases x with
  | int i => exact .inr ⟨fun i h => (by cases h), rfl⟩
  | non => exact .inr ⟨fun i h => (by cases h), rfl⟩
  | bl b => exact .inr ⟨fun i h => (by cases h), rfl⟩
  | str s => exact .inr ⟨fun i h => (by cases h), rfl⟩
  | tup xs =>
    refine .inl ⟨xs, rfl, ?_⟩
    cases m with
    | zero => simp [pd] at h
    | succ m => rw [pd_tup, List.all_eq_true] at h; exact h
  | lst xs => exact .inr ⟨fun i h => (by cases h), rfl⟩
  | dic _ _ => cases m <;> simp [pd] at h
  | scr _ => cases m <;> simp [pd] at h
  | fn _ => cases m <;> simp [pd] at h
theorem isNumB_of {lo hi : Int} {x : D} (h : ∀ i, x ≠ .int i) : isNumB lo hi x = false := by
  cases x <;> first | rfl | exact absurd rfl (h _)
/-- the body of a look at a number -/
theorem num_body (F : Fn) (m : Nat) (x : D) (h : pd m x = true) (lo hi : Int) : ((sSeq (sRet (cAnd (cU (isiD ["int"]) (cV 0)) (cAnd (cNot (cU (isiD ["bool"]) (cV 0))) (cCh leD leD (cV 1) (cV 0) (cV 2))))) (sNil)) F [some x, some (.int lo), some (.int hi)]).bind (fin false) = some (.bl (isNumB lo hi x)) := by
  rcases ty_int h with ⟨i, rfl⟩ | ⟨h1, h2⟩
  · have e1 : isiD ["int"] (.int i) = some (.bl true) := rfl
    have e2 : isiD ["bool"] (.int i) = some (.bl false) := rfl
    by_cases c : lo ≤ i
    · simp only [s_sSeq, s_sNil, s_sRet, s_sRetT, s_sIf, s_sAsg, s_sPar, s_sSetM, s_cND, s_cC, s_cB, s_cU, s_cTup, s_cLst, s_cNil, s_cCons, s_cCall, s_cFn, s_cIx, s_cAnd, s_cOr, s_cNot, s_cIf, s_cTr, s_cBT, s_cAndT, s_cOrT, s_cNotT, s_cCh, s_cChT, s_cSl, s_sFor, s_cWalk, s_cLc, s_lcOne, s_cTrue, s_sApp, s_gN, s_gT, s_gsNil, s_gsCons, s_cV0, s_cVs, s_finR, s_finN, s_boolD, s_truB, s_setAll0, s_setAll1, s_op1, s_op2, s_abs, s_addI, s_subI, eqI, neI, ltI, gtI, leI, geI, mkTup1, mkTup2, mkTup3, idx_t0, idx_t1, idx_t2, obS, omS, List.set_cons_zero, List.set_cons_succ, s_cNone, s_cPart, s_intD, s_cRng1, s_walkL, s_walkT, s_lenT, s_lenL, s_lenS, s_slT, s_slL, if_true, if_false, decide_true, decide_false, Bool.not_true, Bool.not_false, Bool.and_true, Bool.and_false, Bool.true_and, Bool.false_and, Bool.false_eq_true, decide_eq_true_eq, s_cEnum, s_sPut, s_revL, s_revT, s_listL, s_listT, s_tupleL, s_tupleT, s_isDicLst, s_isDicTup, s_isDicInt, wipeE_nil, wipeE_cons, e1, e2, c, isNumB]
    · simp only [s_sSeq, s_sNil, s_sRet, s_sRetT, s_sIf, s_sAsg, s_sPar, s_sSetM, s_cND, s_cC, s_cB, s_cU, s_cTup, s_cLst, s_cNil, s_cCons, s_cCall, s_cFn, s_cIx, s_cAnd, s_cOr, s_cNot, s_cIf, s_cTr, s_cBT, s_cAndT, s_cOrT, s_cNotT, s_cCh, s_cChT, s_cSl, s_sFor, s_cWalk, s_cLc, s_lcOne, s_cTrue, s_sApp, s_gN, s_gT, s_gsNil, s_gsCons, s_cV0, s_cVs, s_finR, s_finN, s_boolD, s_truB, s_setAll0, s_setAll1, s_op1, s_op2, s_abs, s_addI, s_subI, eqI, neI, ltI, gtI, leI, geI, mkTup1, mkTup2, mkTup3, idx_t0, idx_t1, idx_t2, obS, omS, List.set_cons_zero, List.set_cons_succ, s_cNone, s_cPart, s_intD, s_cRng1, s_walkL, s_walkT, s_lenT, s_lenL, s_lenS, s_slT, s_slL, if_true, if_false, decide_true, decide_false, Bool.not_true, Bool.not_false, Bool.and_true, Bool.and_false, Bool.true_and, Bool.false_and, Bool.false_eq_true, decide_eq_true_eq, s_cEnum, s_sPut, s_revL, s_revT, s_listL, s_listT, s_tupleL, s_tupleT, s_isDicLst, s_isDicTup, s_isDicInt, wipeE_nil, wipeE_cons, e1, e2, c, isNumB]
  · rw [isNumB_of h1]
    rcases h2 with e1 | ⟨e1, e2⟩
    · simp only [s_sSeq, s_sNil, s_sRet, s_sRetT, s_sIf, s_sAsg, s_sPar, s_sSetM, s_cND, s_cC, s_cB, s_cU, s_cTup, s_cLst, s_cNil, s_cCons, s_cCall, s_cFn, s_cIx, s_cAnd, s_cOr, s_cNot, s_cIf, s_cTr, s_cBT, s_cAndT, s_cOrT, s_cNotT, s_cCh, s_cChT, s_cSl, s_sFor, s_cWalk, s_cLc, s_lcOne, s_cTrue, s_sApp, s_gN, s_gT, s_gsNil, s_gsCons, s_cV0, s_cVs, s_finR, s_finN, s_boolD, s_truB, s_setAll0, s_setAll1, s_op1, s_op2, s_abs, s_addI, s_subI, eqI, neI, ltI, gtI, leI, geI, mkTup1, mkTup2, mkTup3, idx_t0, idx_t1, idx_t2, obS, omS, List.set_cons_zero, List.set_cons_succ, s_cNone, s_cPart, s_intD, s_cRng1, s_walkL, s_walkT, s_lenT, s_lenL, s_lenS, s_slT, s_slL, if_true, if_false, decide_true, decide_false, Bool.not_true, Bool.not_false, Bool.and_true, Bool.and_false, Bool.true_and, Bool.false_and, Bool.false_eq_true, decide_eq_true_eq, s_cEnum, s_sPut, s_revL, s_revT, s_listL, s_listT, s_tupleL, s_tupleT, s_isDicLst, s_isDicTup, s_isDicInt, wipeE_nil, wipeE_cons, e1]
    · simp only [s_sSeq, s_sNil, s_sRet, s_sRetT, s_sIf, s_sAsg, s_sPar, s_sSetM, s_cND, s_cC, s_cB, s_cU, s_cTup, s_cLst, s_cNil, s_cCons, s_cCall, s_cFn, s_cIx, s_cAnd, s_cOr, s_cNot, s_cIf, s_cTr, s_cBT, s_cAndT, s_cOrT, s_cNotT, s_cCh, s_cChT, s_cSl, s_sFor, s_cWalk, s_cLc, s_lcOne, s_cTrue, s_sApp, s_gN, s_gT, s_gsNil, s_gsCons, s_cV0, s_cVs, s_finR, s_finN, s_boolD, s_truB, s_setAll0, s_setAll1, s_op1, s_op2, s_abs, s_addI, s_subI, eqI, neI, ltI, gtI, leI, geI, mkTup1, mkTup2, mkTup3, idx_t0, idx_t1, idx_t2, obS, omS, List.set_cons_zero, List.set_cons_succ, s_cNone, s_cPart, s_intD, s_cRng1, s_walkL, s_walkT, s_lenT, s_lenL, s_lenS, s_slT, s_slL, if_true, if_false, decide_true, decide_false, Bool.not_true, Bool.not_false, Bool.and_true, Bool.and_false, Bool.true_and, Bool.false_and, Bool.false_eq_true, decide_eq_true_eq, s_cEnum, s_sPut, s_revL, s_revT, s_listL, s_listT, s_tupleL, s_tupleT, s_isDicLst, s_isDicTup, s_isDicInt, wipeE_nil, wipeE_cons, e1, e2]
theorem blsD_map {α : Type} (f : α → Bool) : ∀ l : List α, blsD (l.map fun a => D.bl (f a)) = some (l.map f)
  | [] => rfl
  | a :: l => by simp only [List.map_cons, blsD, blsD_map f l, omS]
theorem allD_map {α : Type} (f : α → Bool) (l : List α) : allD (.lst (l.map fun a => D.bl (f a))) = some (.bl (l.all f)) := by
  simp only [allD, blsD_map, omS, List.all_map]
  rfl
theorem anyD_map {α : Type} (f : α → Bool) (l : List α) : anyD (.lst (l.map fun a => D.bl (f a))) = some (.bl (l.any f)) := by
  simp only [anyD, blsD_map, omS, List.any_map]
  rfl
theorem mkLst2 (a b : D) : mkLst [a, b] = some (.lst [a, b]) := rfl
theorem allD2 (a b : Bool) : allD (.lst [.bl a, .bl b]) = some (.bl (a && b)) := by simp [allD, blsD]
theorem isSpotB_len {far : Int} {xs : List D} (h : xs.length ≠ 2) : isSpotB far (.tup xs) = false := by
  match xs, h with
  | [], _ => rfl
  | [_], _ => rfl
  | [_, _], h => exact absurd rfl h
  | _ :: _ :: _ :: _, _ => rfl
theorem isSpotB_of {far : Int} {x : D} (h : ∀ xs, x ≠ .tup xs) : isSpotB far x = false := by
  cases x <;> first | rfl | exact absurd rfl (h _)
theorem isDirB_spot {x : D} (h : isSpotB 200 x = false) : isDirB x = false := by
  unfold isDirB
  split
  · rw [h]; rfl
  · rfl
theorem isDirB_int {a b : Int} (h : isSpotB 200 (.tup [.int a, .int b]) = true) : isDirB (.tup [.int a, .int b]) = decide (((Int.gcd a b : Nat) : Int) = 1) := by
  show (isSpotB 200 (.tup [.int a, .int b]) && decide (Int.gcd a b = 1)) = _
  rw [h, Bool.true_and]
  exact decide_eq_decide.mpr (by omega)
theorem isSpotB_int {far : Int} {x : D} (h : isSpotB far x = true) : ∃ a b : Int, x = .tup [.int a, .int b] := by
  unfold isSpotB at h
  split at h
  · rename_i a b
    cases a <;> first | (simp [isNumB] at h; done) | skip
    cases b <;> first | (simp [isNumB] at h; done) | skip
    exact ⟨_, _, rfl⟩
  · cases h
end RE
namespace RE
def chS (cs : List Nat) : Str := ⟨cs.toArray⟩
def chs (s : Str) : List Nat := s.cps.toList
theorem chs_chS (cs : List Nat) : chs (chS cs) = cs := by simp [chs, chS]
theorem chS_chs (s : Str) : chS (chs s) = s := by simp [chs, chS]
theorem len_chs (s : Str) : s.length = (chs s).length := by simp [chs, Str.length]
theorem walk_str (s : Str) : walkL (.str s) = some ((chs s).map fun c => .str (chS [c])) := rfl
theorem in_str (c : Nat) (s : Str) : inD (.str (chS [c])) (.str s) = some (.bl (decide (c ∈ chs s))) := rfl
theorem notIn_str (c : Nat) (s : Str) : notInD (.str (chS [c])) (.str s) = some (.bl (!decide (c ∈ chs s))) := rfl
theorem len_str {s : Str} (h : s.length ≤ 100000) : lenD (.str s) = some (.int (s.length : Nat)) := by
  simp only [lenD]; rw [fits_of h]; rfl
theorem lst_nil_eq {l : List D} (h : ∀ d ∈ l, pd 63 d = true) : eqD (.lst l) (.lst []) = some (.bl l.isEmpty) := by
  unfold eqD pd2
  rw [show pd 64 (.lst l) = true by rw [pd_lst 63, List.all_eq_true]; exact h]
  cases l with
  | nil => rfl
  | cons a l =>
    have : eqv (.lst (a :: l)) (.lst []) = false := by simp [eqv, toP, toPs, PyData.eqv, PyData.eqvAll]
    rw [this]
    rfl
def isStrB : D → Bool
  | .str _ => true
  | _ => false
theorem isi_str {n : Nat} {x : D} (h : pd n x = true) : isiD ["str"] x = some (.bl (isStrB x)) := by
  cases x with
  | dic _ _ => cases n <;> simp [pd] at h
  | scr _ => cases n <;> simp [pd] at h
  | fn _ => cases n <;> simp [pd] at h
  | _ => rfl
/-- a name: one to eight small letters -/
def nmB (s : Str) : Bool := (decide (1 ≤ (s.length : Int)) && decide ((s.length : Int) ≤ 8)) && (chs s).all fun c => decide (c ∈ chs "abcdefghijklmnopqrstuvwxyz")
def nameB : D → Bool
  | .str s => nmB s
  | _ => false
theorem nameB_of {x : D} (h : isStrB x = false) : nameB x = false := by
  cases x <;> first | rfl | exact absurd h (by decide) | exact absurd h (fun z => nomatch z)
theorem nameB_str {x : D} (h : nameB x = true) : ∃ s : Str, x = .str s ∧ nmB s = true := by
  cases x <;> first | exact ⟨_, rfl, h⟩ | exact absurd h (fun z => nomatch z)
theorem Sm.strL {m k : Nat} {s : Str} (h : Sm m k (.str s)) : s.length ≤ 100 := by
  have := h.d
  rw [pq_str] at this
  exact of_decide_eq_true this
theorem Sm.sub {m k : Nat} {l : List D} (h : Sm m k (.tup l)) : ∀ x ∈ l, Sm m k x := fun x hx => by
  obtain ⟨h1, h2⟩ := h
  cases m with
  | zero => simp [pq] at h1
  | succ m =>
    rw [pq_tup, List.all_eq_true] at h1
    refine ⟨pq_up (Nat.le_succ m) (h1 x hx), ?_⟩
    have := ndL_mem hx
    simp only [nd] at h2
    omega
theorem Sm.lenL {m k : Nat} {l : List D} (h : Sm m k (.tup l)) : l.length ≤ k := by
  have := h.n
  have := ndL_len l
  simp only [nd] at *
  omega
/-- a loop that looks at each and ends with False at the first that is none -/
theorem for_all {α : Type} {asg : SG} {body : RE.Env → Option Res} (I : RE.Env → Prop) (f : α → D) (B : α → Bool) : ∀ (xs : List α) (ρ : RE.Env), I ρ →
    (∀ x ∈ xs, ∀ ρ, I ρ → (B x = true → ∃ ρ', ((asg (f x) ρ).bind body) = some (.nx ρ') ∧ I ρ') ∧ (B x = false → ((asg (f x) ρ).bind body) = some (.rt false (.bl false)))) →
    (xs.all B = true → ∃ ρ', forD asg body (xs.map f) ρ = some (.nx ρ') ∧ I ρ') ∧ (xs.all B = false → forD asg body (xs.map f) ρ = some (.rt false (.bl false)))
  | [], ρ, h, _ => ⟨fun _ => ⟨ρ, rfl, h⟩, fun q => (nomatch q)⟩
  | x :: xs, ρ, h, hx => by
    obtain ⟨h1, h2⟩ := hx x List.mem_cons_self ρ h
    rw [List.all_cons, List.map_cons]
    cases hb : B x with
    | true =>
      obtain ⟨ρ2, g1, g2⟩ := h1 hb
      obtain ⟨ρ1, e1, e2⟩ := Option.bind_eq_some_iff.mp g1
      have ih := for_all I f B xs ρ2 g2 fun y hy => hx y (List.mem_cons_of_mem _ hy)
      rw [Bool.true_and]
      have e : forD asg body (f x :: xs.map f) ρ = forD asg body (xs.map f) ρ2 := by rw [forD, e1, obS, e2]; rfl
      rw [e]
      exact ih
    | false =>
      have g1 := h2 hb
      obtain ⟨ρ1, e1, e2⟩ := Option.bind_eq_some_iff.mp g1
      rw [Bool.false_and]
      refine ⟨fun q => (nomatch q), fun _ => ?_⟩
      rw [forD, e1, obS, e2]
      rfl
theorem isStrB_str {x : D} (h : isStrB x = true) : ∃ s : Str, x = .str s := by
  cases x <;> first | exact ⟨_, rfl⟩ | exact absurd h (fun z => nomatch z)
end RE
namespace L
theorem is_name_ev (n m k : Nat) (x : D) (hx : Sm m k x) : lvl (DT rows) (n + 1) "is_name" [x] = some (.bl (nameB x)) := by
  rw [v_is_name]
  generalize lvl (DT rows) n = F
  have h1 := isi_str hx.pd
  cases hs : isStrB x with
  | false =>
    rw [hs] at h1
    rw [nameB_of hs]
    unfold b_is_name
    simp only [s_sSeq, s_sNil, s_sRet, s_sRetT, s_sIf, s_sAsg, s_sPar, s_sSetM, s_cND, s_cC, s_cB, s_cU, s_cTup, s_cLst, s_cNil, s_cCons, s_cCall, s_cFn, s_cIx, s_cAnd, s_cOr, s_cNot, s_cIf, s_cTr, s_cBT, s_cAndT, s_cOrT, s_cNotT, s_cCh, s_cChT, s_cSl, s_sFor, s_cWalk, s_cLc, s_lcOne, s_cTrue, s_sApp, s_gN, s_gT, s_gsNil, s_gsCons, s_cV0, s_cVs, s_finR, s_finN, s_boolD, s_truB, s_setAll0, s_setAll1, s_op1, s_op2, s_abs, s_addI, s_subI, eqI, neI, ltI, gtI, leI, geI, mkTup1, mkTup2, mkTup3, idx_t0, idx_t1, idx_t2, obS, omS, List.set_cons_zero, List.set_cons_succ, s_cNone, s_cPart, s_intD, s_cRng1, s_walkL, s_walkT, s_lenT, s_lenL, s_lenS, s_slT, s_slL, if_true, if_false, decide_true, decide_false, Bool.not_true, Bool.not_false, Bool.and_true, Bool.and_false, Bool.true_and, Bool.false_and, Bool.false_eq_true, decide_eq_true_eq, s_cEnum, s_sPut, s_revL, s_revT, s_listL, s_listT, s_tupleL, s_tupleT, s_isDicLst, s_isDicTup, s_isDicInt, wipeE_nil, wipeE_cons, h1]
  | true =>
    obtain ⟨s, rfl⟩ := isStrB_str hs
    rw [hs] at h1
    have hl := hx.strL
    have hlen := len_str (s := s) (by omega)
    show _ = some (D.bl (nmB s))
    unfold nmB
    by_cases c1 : 1 ≤ (s.length : Int)
    rotate_left
    · rw [decide_eq_false c1, Bool.false_and, Bool.false_and]
      unfold b_is_name
      simp only [s_sSeq, s_sNil, s_sRet, s_sRetT, s_sIf, s_sAsg, s_sPar, s_sSetM, s_cND, s_cC, s_cB, s_cU, s_cTup, s_cLst, s_cNil, s_cCons, s_cCall, s_cFn, s_cIx, s_cAnd, s_cOr, s_cNot, s_cIf, s_cTr, s_cBT, s_cAndT, s_cOrT, s_cNotT, s_cCh, s_cChT, s_cSl, s_sFor, s_cWalk, s_cLc, s_lcOne, s_cTrue, s_sApp, s_gN, s_gT, s_gsNil, s_gsCons, s_cV0, s_cVs, s_finR, s_finN, s_boolD, s_truB, s_setAll0, s_setAll1, s_op1, s_op2, s_abs, s_addI, s_subI, eqI, neI, ltI, gtI, leI, geI, mkTup1, mkTup2, mkTup3, idx_t0, idx_t1, idx_t2, obS, omS, List.set_cons_zero, List.set_cons_succ, s_cNone, s_cPart, s_intD, s_cRng1, s_walkL, s_walkT, s_lenT, s_lenL, s_lenS, s_slT, s_slL, if_true, if_false, decide_true, decide_false, Bool.not_true, Bool.not_false, Bool.and_true, Bool.and_false, Bool.true_and, Bool.false_and, Bool.false_eq_true, decide_eq_true_eq, s_cEnum, s_sPut, s_revL, s_revT, s_listL, s_listT, s_tupleL, s_tupleT, s_isDicLst, s_isDicTup, s_isDicInt, wipeE_nil, wipeE_cons, h1, hlen, c1]
    by_cases c2 : (s.length : Int) ≤ 8
    rotate_left
    · rw [decide_eq_false c2, Bool.and_false, Bool.false_and]
      unfold b_is_name
      simp only [s_sSeq, s_sNil, s_sRet, s_sRetT, s_sIf, s_sAsg, s_sPar, s_sSetM, s_cND, s_cC, s_cB, s_cU, s_cTup, s_cLst, s_cNil, s_cCons, s_cCall, s_cFn, s_cIx, s_cAnd, s_cOr, s_cNot, s_cIf, s_cTr, s_cBT, s_cAndT, s_cOrT, s_cNotT, s_cCh, s_cChT, s_cSl, s_sFor, s_cWalk, s_cLc, s_lcOne, s_cTrue, s_sApp, s_gN, s_gT, s_gsNil, s_gsCons, s_cV0, s_cVs, s_finR, s_finN, s_boolD, s_truB, s_setAll0, s_setAll1, s_op1, s_op2, s_abs, s_addI, s_subI, eqI, neI, ltI, gtI, leI, geI, mkTup1, mkTup2, mkTup3, idx_t0, idx_t1, idx_t2, obS, omS, List.set_cons_zero, List.set_cons_succ, s_cNone, s_cPart, s_intD, s_cRng1, s_walkL, s_walkT, s_lenT, s_lenL, s_lenS, s_slT, s_slL, if_true, if_false, decide_true, decide_false, Bool.not_true, Bool.not_false, Bool.and_true, Bool.and_false, Bool.true_and, Bool.false_and, Bool.false_eq_true, decide_eq_true_eq, s_cEnum, s_sPut, s_revL, s_revT, s_listL, s_listT, s_tupleL, s_tupleT, s_isDicLst, s_isDicTup, s_isDicInt, wipeE_nil, wipeE_cons, h1, hlen, c1, c2]
    rw [decide_eq_true c1, decide_eq_true c2, Bool.true_and, Bool.true_and]
    have wl := walk_str s
    have hJ : (chs s).length ≤ 100 := by rw [← len_chs]; exact hl
    have L1 : lcAll (lcOne (gN 1) (cTrue) (cB inD (cV 1) (cC (.str "abcdefghijklmnopqrstuvwxyz"))) F [some (.str s), none]) ((chs s).map fun c => .str (chS [c])) = some ((chs s).map fun c => .bl (decide (c ∈ chs "abcdefghijklmnopqrstuvwxyz"))) := lc_map fun c _ => by
      have := in_str c "abcdefghijklmnopqrstuvwxyz"
      simp only [s_sSeq, s_sNil, s_sRet, s_sRetT, s_sIf, s_sAsg, s_sPar, s_sSetM, s_cND, s_cC, s_cB, s_cU, s_cTup, s_cLst, s_cNil, s_cCons, s_cCall, s_cFn, s_cIx, s_cAnd, s_cOr, s_cNot, s_cIf, s_cTr, s_cBT, s_cAndT, s_cOrT, s_cNotT, s_cCh, s_cChT, s_cSl, s_sFor, s_cWalk, s_cLc, s_lcOne, s_cTrue, s_sApp, s_gN, s_gT, s_gsNil, s_gsCons, s_cV0, s_cVs, s_finR, s_finN, s_boolD, s_truB, s_setAll0, s_setAll1, s_op1, s_op2, s_abs, s_addI, s_subI, eqI, neI, ltI, gtI, leI, geI, mkTup1, mkTup2, mkTup3, idx_t0, idx_t1, idx_t2, obS, omS, List.set_cons_zero, List.set_cons_succ, s_cNone, s_cPart, s_intD, s_cRng1, s_walkL, s_walkT, s_lenT, s_lenL, s_lenS, s_slT, s_slL, if_true, if_false, decide_true, decide_false, Bool.not_true, Bool.not_false, Bool.and_true, Bool.and_false, Bool.true_and, Bool.false_and, Bool.false_eq_true, decide_eq_true_eq, s_cEnum, s_sPut, s_revL, s_revT, s_listL, s_listT, s_tupleL, s_tupleT, s_isDicLst, s_isDicTup, s_isDicInt, wipeE_nil, wipeE_cons, this]
    have L2 := mkLst_ev (ds := (chs s).map fun c => .bl (decide (c ∈ chs "abcdefghijklmnopqrstuvwxyz"))) (by rw [List.length_map]; omega)
    have L3 := allD_map (fun c : Nat => decide (c ∈ chs "abcdefghijklmnopqrstuvwxyz")) (chs s)
    generalize hA : (cLc [1] (cWalk (cV 0)) (gN 1) (cTrue) (cB inD (cV 1) (cC (.str "abcdefghijklmnopqrstuvwxyz")))) = E at *
    have E1 : E F [some (.str s), none] = some (.lst ((chs s).map fun c => .bl (decide (c ∈ chs "abcdefghijklmnopqrstuvwxyz")))) := by
      rw [← hA, s_cLc]
      simp only [s_cWalk, s_cV0, obS, wl, wipeE_cons, wipeE_nil, List.set_cons_succ, List.set_cons_zero]
      rw [L1, obS, L2]
    unfold b_is_name
    rw [hA]
    simp only [s_sSeq, s_sNil, s_sRet, s_sRetT, s_sIf, s_sAsg, s_sPar, s_sSetM, s_cND, s_cC, s_cB, s_cU, s_cTup, s_cLst, s_cNil, s_cCons, s_cCall, s_cFn, s_cIx, s_cAnd, s_cOr, s_cNot, s_cIf, s_cTr, s_cBT, s_cAndT, s_cOrT, s_cNotT, s_cCh, s_cChT, s_cSl, s_sFor, s_cWalk, s_cLc, s_lcOne, s_cTrue, s_sApp, s_gN, s_gT, s_gsNil, s_gsCons, s_cV0, s_cVs, s_finR, s_finN, s_boolD, s_truB, s_setAll0, s_setAll1, s_op1, s_op2, s_abs, s_addI, s_subI, eqI, neI, ltI, gtI, leI, geI, mkTup1, mkTup2, mkTup3, idx_t0, idx_t1, idx_t2, obS, omS, List.set_cons_zero, List.set_cons_succ, s_cNone, s_cPart, s_intD, s_cRng1, s_walkL, s_walkT, s_lenT, s_lenL, s_lenS, s_slT, s_slL, if_true, if_false, decide_true, decide_false, Bool.not_true, Bool.not_false, Bool.and_true, Bool.and_false, Bool.true_and, Bool.false_and, Bool.false_eq_true, decide_eq_true_eq, s_cEnum, s_sPut, s_revL, s_revT, s_listL, s_listT, s_tupleL, s_tupleT, s_isDicLst, s_isDicTup, s_isDicInt, wipeE_nil, wipeE_cons, h1, hlen, c1, c2, E1, L3]
theorem law_is_name_ev (n m k : Nat) (x : D) (hx : Sm m k x) : lvl (DT rows) (n + 1) "_law_is_name" [x] = some (.bl (nameB x)) := by
  rw [v__law_is_name]
  generalize lvl (DT rows) n = F
  have h1 := isi_str hx.pd
  cases hs : isStrB x with
  | false =>
    rw [hs] at h1
    rw [nameB_of hs]
    unfold b__law_is_name
    simp only [s_sSeq, s_sNil, s_sRet, s_sRetT, s_sIf, s_sAsg, s_sPar, s_sSetM, s_cND, s_cC, s_cB, s_cU, s_cTup, s_cLst, s_cNil, s_cCons, s_cCall, s_cFn, s_cIx, s_cAnd, s_cOr, s_cNot, s_cIf, s_cTr, s_cBT, s_cAndT, s_cOrT, s_cNotT, s_cCh, s_cChT, s_cSl, s_sFor, s_cWalk, s_cLc, s_lcOne, s_cTrue, s_sApp, s_gN, s_gT, s_gsNil, s_gsCons, s_cV0, s_cVs, s_finR, s_finN, s_boolD, s_truB, s_setAll0, s_setAll1, s_op1, s_op2, s_abs, s_addI, s_subI, eqI, neI, ltI, gtI, leI, geI, mkTup1, mkTup2, mkTup3, idx_t0, idx_t1, idx_t2, obS, omS, List.set_cons_zero, List.set_cons_succ, s_cNone, s_cPart, s_intD, s_cRng1, s_walkL, s_walkT, s_lenT, s_lenL, s_lenS, s_slT, s_slL, if_true, if_false, decide_true, decide_false, Bool.not_true, Bool.not_false, Bool.and_true, Bool.and_false, Bool.true_and, Bool.false_and, Bool.false_eq_true, decide_eq_true_eq, s_cEnum, s_sPut, s_revL, s_revT, s_listL, s_listT, s_tupleL, s_tupleT, s_isDicLst, s_isDicTup, s_isDicInt, wipeE_nil, wipeE_cons, h1]
  | true =>
    obtain ⟨s, rfl⟩ := isStrB_str hs
    rw [hs] at h1
    have hl := hx.strL
    have hlen := len_str (s := s) (by omega)
    show _ = some (D.bl (nmB s))
    unfold nmB
    by_cases c1 : 1 ≤ (s.length : Int)
    rotate_left
    · rw [decide_eq_false c1, Bool.false_and, Bool.false_and]
      unfold b__law_is_name
      simp only [s_sSeq, s_sNil, s_sRet, s_sRetT, s_sIf, s_sAsg, s_sPar, s_sSetM, s_cND, s_cC, s_cB, s_cU, s_cTup, s_cLst, s_cNil, s_cCons, s_cCall, s_cFn, s_cIx, s_cAnd, s_cOr, s_cNot, s_cIf, s_cTr, s_cBT, s_cAndT, s_cOrT, s_cNotT, s_cCh, s_cChT, s_cSl, s_sFor, s_cWalk, s_cLc, s_lcOne, s_cTrue, s_sApp, s_gN, s_gT, s_gsNil, s_gsCons, s_cV0, s_cVs, s_finR, s_finN, s_boolD, s_truB, s_setAll0, s_setAll1, s_op1, s_op2, s_abs, s_addI, s_subI, eqI, neI, ltI, gtI, leI, geI, mkTup1, mkTup2, mkTup3, idx_t0, idx_t1, idx_t2, obS, omS, List.set_cons_zero, List.set_cons_succ, s_cNone, s_cPart, s_intD, s_cRng1, s_walkL, s_walkT, s_lenT, s_lenL, s_lenS, s_slT, s_slL, if_true, if_false, decide_true, decide_false, Bool.not_true, Bool.not_false, Bool.and_true, Bool.and_false, Bool.true_and, Bool.false_and, Bool.false_eq_true, decide_eq_true_eq, s_cEnum, s_sPut, s_revL, s_revT, s_listL, s_listT, s_tupleL, s_tupleT, s_isDicLst, s_isDicTup, s_isDicInt, wipeE_nil, wipeE_cons, h1, hlen, c1]
    by_cases c2 : (s.length : Int) ≤ 8
    rotate_left
    · rw [decide_eq_false c2, Bool.and_false, Bool.false_and]
      unfold b__law_is_name
      simp only [s_sSeq, s_sNil, s_sRet, s_sRetT, s_sIf, s_sAsg, s_sPar, s_sSetM, s_cND, s_cC, s_cB, s_cU, s_cTup, s_cLst, s_cNil, s_cCons, s_cCall, s_cFn, s_cIx, s_cAnd, s_cOr, s_cNot, s_cIf, s_cTr, s_cBT, s_cAndT, s_cOrT, s_cNotT, s_cCh, s_cChT, s_cSl, s_sFor, s_cWalk, s_cLc, s_lcOne, s_cTrue, s_sApp, s_gN, s_gT, s_gsNil, s_gsCons, s_cV0, s_cVs, s_finR, s_finN, s_boolD, s_truB, s_setAll0, s_setAll1, s_op1, s_op2, s_abs, s_addI, s_subI, eqI, neI, ltI, gtI, leI, geI, mkTup1, mkTup2, mkTup3, idx_t0, idx_t1, idx_t2, obS, omS, List.set_cons_zero, List.set_cons_succ, s_cNone, s_cPart, s_intD, s_cRng1, s_walkL, s_walkT, s_lenT, s_lenL, s_lenS, s_slT, s_slL, if_true, if_false, decide_true, decide_false, Bool.not_true, Bool.not_false, Bool.and_true, Bool.and_false, Bool.true_and, Bool.false_and, Bool.false_eq_true, decide_eq_true_eq, s_cEnum, s_sPut, s_revL, s_revT, s_listL, s_listT, s_tupleL, s_tupleT, s_isDicLst, s_isDicTup, s_isDicInt, wipeE_nil, wipeE_cons, h1, hlen, c1, c2]
    rw [decide_eq_true c1, decide_eq_true c2, Bool.true_and, Bool.true_and]
    have wl := walk_str s
    have hJ : (chs s).length ≤ 100 := by rw [← len_chs]; exact hl
    have L1 : lcAll (lcOne (gN 1) (cBT notInD (cV 1) (cC (.str "abcdefghijklmnopqrstuvwxyz"))) (cV 1) F [some (.str s), none]) ((chs s).map fun c => .str (chS [c])) = some (((chs s).filter fun c => !decide (c ∈ chs "abcdefghijklmnopqrstuvwxyz")).map fun c => .str (chS [c])) := lc_filter fun c _ => by
      have := notIn_str c "abcdefghijklmnopqrstuvwxyz"
      generalize decide (c ∈ chs "abcdefghijklmnopqrstuvwxyz") = b at *
      cases b <;> (simp only [s_sSeq, s_sNil, s_sRet, s_sRetT, s_sIf, s_sAsg, s_sPar, s_sSetM, s_cND, s_cC, s_cB, s_cU, s_cTup, s_cLst, s_cNil, s_cCons, s_cCall, s_cFn, s_cIx, s_cAnd, s_cOr, s_cNot, s_cIf, s_cTr, s_cBT, s_cAndT, s_cOrT, s_cNotT, s_cCh, s_cChT, s_cSl, s_sFor, s_cWalk, s_cLc, s_lcOne, s_cTrue, s_sApp, s_gN, s_gT, s_gsNil, s_gsCons, s_cV0, s_cVs, s_finR, s_finN, s_boolD, s_truB, s_setAll0, s_setAll1, s_op1, s_op2, s_abs, s_addI, s_subI, eqI, neI, ltI, gtI, leI, geI, mkTup1, mkTup2, mkTup3, idx_t0, idx_t1, idx_t2, obS, omS, List.set_cons_zero, List.set_cons_succ, s_cNone, s_cPart, s_intD, s_cRng1, s_walkL, s_walkT, s_lenT, s_lenL, s_lenS, s_slT, s_slL, if_true, if_false, decide_true, decide_false, Bool.not_true, Bool.not_false, Bool.and_true, Bool.and_false, Bool.true_and, Bool.false_and, Bool.false_eq_true, decide_eq_true_eq, s_cEnum, s_sPut, s_revL, s_revT, s_listL, s_listT, s_tupleL, s_tupleT, s_isDicLst, s_isDicTup, s_isDicInt, wipeE_nil, wipeE_cons, this]; try rfl)
    have L2 := mkLst_ev (ds := ((chs s).filter fun c => !decide (c ∈ chs "abcdefghijklmnopqrstuvwxyz")).map fun c => .str (chS [c])) (by rw [List.length_map]; have := List.length_filter_le (fun c => !decide (c ∈ chs "abcdefghijklmnopqrstuvwxyz")) (chs s); omega)
    have L3 : eqD (.lst (((chs s).filter fun c => !decide (c ∈ chs "abcdefghijklmnopqrstuvwxyz")).map fun c => .str (chS [c]))) (.lst []) = some (.bl ((chs s).all fun c => decide (c ∈ chs "abcdefghijklmnopqrstuvwxyz"))) := by
      rw [lst_nil_eq fun y hy => by
        obtain ⟨s, _, rfl⟩ := List.mem_map.mp hy
        rfl]
      refine congrArg (fun b => some (D.bl b)) ?_
      generalize (chs s) = C
      induction C with
      | nil => rfl
      | cons c C ih =>
        rw [List.filter_cons, List.all_cons]
        cases decide (c ∈ chs "abcdefghijklmnopqrstuvwxyz") with
        | true => rw [← ih]; rfl
        | false => rfl
    have m0 : mkLst [] = some (.lst []) := rfl
    generalize hA : (cLc [1] (cWalk (cV 0)) (gN 1) (cBT notInD (cV 1) (cC (.str "abcdefghijklmnopqrstuvwxyz"))) (cV 1)) = E at *
    have E1 : E F [some (.str s), none] = some (.lst (((chs s).filter fun c => !decide (c ∈ chs "abcdefghijklmnopqrstuvwxyz")).map fun c => .str (chS [c]))) := by
      rw [← hA, s_cLc]
      simp only [s_cWalk, s_cV0, obS, wl, wipeE_cons, wipeE_nil, List.set_cons_succ, List.set_cons_zero]
      rw [L1, obS, L2]
    unfold b__law_is_name
    rw [hA]
    simp only [s_sSeq, s_sNil, s_sRet, s_sRetT, s_sIf, s_sAsg, s_sPar, s_sSetM, s_cND, s_cC, s_cB, s_cU, s_cTup, s_cLst, s_cNil, s_cCons, s_cCall, s_cFn, s_cIx, s_cAnd, s_cOr, s_cNot, s_cIf, s_cTr, s_cBT, s_cAndT, s_cOrT, s_cNotT, s_cCh, s_cChT, s_cSl, s_sFor, s_cWalk, s_cLc, s_lcOne, s_cTrue, s_sApp, s_gN, s_gT, s_gsNil, s_gsCons, s_cV0, s_cVs, s_finR, s_finN, s_boolD, s_truB, s_setAll0, s_setAll1, s_op1, s_op2, s_abs, s_addI, s_subI, eqI, neI, ltI, gtI, leI, geI, mkTup1, mkTup2, mkTup3, idx_t0, idx_t1, idx_t2, obS, omS, List.set_cons_zero, List.set_cons_succ, s_cNone, s_cPart, s_intD, s_cRng1, s_walkL, s_walkT, s_lenT, s_lenL, s_lenS, s_slT, s_slL, if_true, if_false, decide_true, decide_false, Bool.not_true, Bool.not_false, Bool.and_true, Bool.and_false, Bool.true_and, Bool.false_and, Bool.false_eq_true, decide_eq_true_eq, s_cEnum, s_sPut, s_revL, s_revT, s_listL, s_listT, s_tupleL, s_tupleT, s_isDicLst, s_isDicTup, s_isDicInt, wipeE_nil, wipeE_cons, h1, hlen, c1, c2, E1, L3, m0]
end L
namespace RE
theorem eq_bl (a b : Bool) : eqD (.bl a) (.bl b) = some (.bl (decide (a = b))) := by
  cases a <;> cases b <;> rfl
end RE
namespace L
theorem cell_ev (n : Nat) (ns : List Int) (k : Nat) (hn : ns.length ≤ 63) (hk : k ≤ 1000) : ∃ c : Int, lvl (DT rows) (n + 1) "_law_cell" [.scr ns, .int (k : Int)] = some (.int c) := by
  rw [v__law_cell]
  have m := mul_ev (i := 7919) (j := (k : Int)) (by decide) (wim_of (k := 20) (by omega) (by decide))
  by_cases h1 : (k : Int) < (ns.length : Int)
  · refine ⟨ns[k]'(by omega), ?_⟩
    simp [b__law_cell, h1, idx_scr (show k < ns.length by omega)]
  · by_cases h2 : ns = []
    · subst h2
      refine ⟨7919 * k + 101, ?_⟩
      have h1 : ¬ (k : Int) < 0 := by omega
      simp [b__law_cell, m, h1]
    · have h3 : 0 < ns.length := List.length_pos_iff.mpr h2
      have h4 : (ns.length : Int) ≠ 0 := by omega
      have e := mod_ev (i := (k : Int)) h4
      rw [fmod_nn] at e
      have hl := Nat.mod_lt k h3
      refine ⟨(ns[k % ns.length]'hl).fmod 1000003 + 7919 * k, ?_⟩
      have e2 := mod_ev (i := ns[k % ns.length]'hl) (j := 1000003) (by decide)
      have i2 := idx_scr hl
      simp only [b__law_cell, s_sSeq, s_sIf, s_cBT, s_cV0, s_cVs, s_cCall, s_cCons, s_cNil, obS, s_op1, s_lenS, ltI, s_boolD, h1, decide_false, Bool.false_eq_true, if_false, s_sNil, eqI, s_cC, h4, s_sRet, s_cB, s_cIx, e, i2, e2, m, s_addI, omS, s_finR]
      rfl
end L
namespace RE
def primesI : List Int := [2147483647, 2147483629, 2147483587, 2147483579, 2147483563, 2147483549, 2147483543, 2147483497]
def primesD : List D := primesI.map .int
noncomputable def drawB : SS := (sSeq (sAsg (cB mulD (cB modD (cV 5) (cIx (cV 4) (cB modD (cV 8) (cC (.int 8))))) (cB addD (cC (.int 48271)) (cB mulD (cB mulD (cC (.int 2)) (cV 8)) (cV 8)))) (gN 9)) (sSeq (sAsg (cB addD (cB addD (cV 9) (cB mulD (cB mulD (cC (.int 7919)) (cB addD (cV 8) (cC (.int 1)))) (cB addD (cV 8) (cC (.int 1))))) (cB mulD (cC (.int 104729)) (cV 1))) (gN 9)) (sSeq (sAsg (cB modD (cV 9) (cIx (cV 4) (cB modD (cB addD (cB mulD (cC (.int 3)) (cV 8)) (cV 1)) (cC (.int 8))))) (gN 9)) (sSeq (sAsg (cB modD (cB mulD (cB mulD (cV 9) (cV 9)) (cV 9)) (cIx (cV 4) (cB modD (cB addD (cV 8) (cC (.int 5))) (cC (.int 8))))) (gN 9)) (sSeq (sIf (cBT gtD (cV 6) (cC (.int 0))) (sSeq (sAsg (cV 6) (gN 9)) (sNil)) (sNil)) (sSeq (sApp 7 (cB modD (cV 9) (cV 3))) (sSeq (sAsg (cB fdivD (cV 6) (cV 3)) (gN 6)) (sNil))))))))
theorem prime_at (i : Nat) : ∃ p : Int, 0 < p ∧ p < 2 ^ 31 ∧ idxD (.tup primesD) (.int ((i % 8 : Nat) : Int)) = some (.int p) := by
  have hl : i % 8 < primesD.length := by
    have : i % 8 < 8 := Nat.mod_lt _ (by decide)
    exact this
  have hI : i % 8 < primesI.length := hl
  have hb : ∀ x ∈ primesI, 0 < x ∧ x < 2 ^ 31 := by decide
  refine ⟨primesI[i % 8], (hb _ (List.getElem_mem hI)).1, (hb _ (List.getElem_mem hI)).2, ?_⟩
  rw [idx_tup hl]
  simp [primesD]
theorem mod8 (i : Nat) : modD (.int (i : Int)) (.int 8) = some (.int ((i % 8 : Nat) : Int)) := by
  rw [mod_ev (by decide)]
  exact congrArg (fun z => some (D.int z)) (fmod_nn i 8)
theorem mk8 : mkTup [.int 2147483647, .int 2147483629, .int 2147483587, .int 2147483579, .int 2147483563, .int 2147483549, .int 2147483543, .int 2147483497] = some (.tup primesD) := rfl
theorem mk0 : mkLst [] = some (.lst []) := rfl
theorem isDicL (l : List D) : isDic (.lst l) = false := rfl
/-- one turn -/
theorem draw_step (F : Fn) (s m : D) (k j : Nat) (base cell rest : Int) (row : List D) (x9 : Option D) (hk : k ≤ 1000) (hj : j ≤ 1000) (hb : 0 < base) (hb2 : base < 2 ^ 31) (hr : row.length < 100000) :
    ∃ (d rest' y9 : Int), 0 ≤ d ∧ d < base ∧ drawB F [some s, some (.int (k : Int)), some m, some (.int base), some (.tup primesD), some (.int cell), some (.int rest), some (.lst row), some (.int (j : Int)), x9] =
      some (.nx [some s, some (.int (k : Int)), some m, some (.int base), some (.tup primesD), some (.int cell), some (.int rest'), some (.lst (row ++ [.int d])), some (.int (j : Int)), some (.int y9)]) := by
  obtain ⟨p1, a1, b1, c1⟩ := prime_at j
  obtain ⟨p2, a2, b2, c2⟩ := prime_at (3 * j + k)
  obtain ⟨p3, a3, b3, c3⟩ := prime_at (j + 5)
  have e1 := mod8 j
  have e2 := mod8 (3 * j + k)
  have e3 := mod8 (j + 5)
  have f1 := mod_ev (i := cell) (j := p1) (by omega)
  have r1 := fmod_rng cell a1
  have w1 : wim (cell.fmod p1) = true := wim_of (k := 31) (by omega) (by decide)
  have m1 := mul_ev (i := 2) (j := (j : Int)) (by decide) (wim_of (k := 11) (by omega) (by decide))
  have m2 := mul_ev (i := 2 * (j : Int)) (j := (j : Int)) (wim_of (k := 12) (by omega) (by decide)) (wim_of (k := 11) (by omega) (by decide))
  have z1 : (2 * (j : Int) * j).natAbs < 2 ^ 23 := mul_sz (k := 12) (l := 11) (by omega) (by omega)
  have m3 := mul_ev (i := cell.fmod p1) (j := 48271 + 2 * (j : Int) * j) w1 (wim_of (k := 25) (by omega) (by decide))
  have m4 := mul_ev (i := 7919) (j := (j : Int) + 1) (by decide) (wim_of (k := 12) (by omega) (by decide))
  have m5 := mul_ev (i := 7919 * ((j : Int) + 1)) (j := (j : Int) + 1) (wim_of (k := 30) (by omega) (by decide)) (wim_of (k := 12) (by omega) (by decide))
  have m6 := mul_ev (i := 104729) (j := (k : Int)) (by decide) (wim_of (k := 12) (by omega) (by decide))
  have m7 := mul_ev (i := 3) (j := (j : Int)) (by decide) (wim_of (k := 12) (by omega) (by decide))
  generalize hA : cell.fmod p1 * (48271 + 2 * (j : Int) * j) + 7919 * ((j : Int) + 1) * ((j : Int) + 1) + 104729 * (k : Int) = A
  have f2 := mod_ev (i := A) (j := p2) (by omega)
  have r2 := fmod_rng A a2
  generalize hB : A.fmod p2 = B at *
  have m8 := mul_ev (i := B) (j := B) (wim_of (k := 31) (by omega) (by decide)) (wim_of (k := 31) (by omega) (by decide))
  have z2 : (B * B).natAbs < 2 ^ 62 := mul_sz (k := 31) (l := 31) (by omega) (by omega)
  have m9 := mul_ev (i := B * B) (j := B) (wim_of z2 (by decide)) (wim_of (k := 31) (by omega) (by decide))
  have f3 := mod_ev (i := B * B * B) (j := p3) (by omega)
  have f4 : ∀ x : Int, modD (.int x) (.int base) = some (.int (x.fmod base)) := fun x => mod_ev (by omega)
  have f5 := fdiv_ev (i := rest) (j := base) (by omega) (wid_of (k := 31) (by omega) (by decide))
  have q2 : (3 * (j : Int) + (k : Int)) = ((3 * j + k : Nat) : Int) := by omega
  have q3 : ((j : Int) + 5) = ((j + 5 : Nat) : Int) := by omega
  have hf := fits_of (n := row.length + 1) (by omega)
  by_cases hp : 0 < rest
  · refine ⟨rest.fmod base, rest.fdiv base, rest, (fmod_rng _ hb).1, (fmod_rng _ hb).2, ?_⟩
    simp only [s_sSeq, s_sNil, s_sRet, s_sRetT, s_sIf, s_sAsg, s_sPar, s_sSetM, s_cND, s_cC, s_cB, s_cU, s_cTup, s_cLst, s_cNil, s_cCons, s_cCall, s_cFn, s_cIx, s_cAnd, s_cOr, s_cNot, s_cIf, s_cTr, s_cBT, s_cAndT, s_cOrT, s_cNotT, s_cCh, s_cChT, s_cSl, s_sFor, s_cWalk, s_cLc, s_lcOne, s_cTrue, s_sApp, s_gN, s_gT, s_gsNil, s_gsCons, s_cV0, s_cVs, s_finR, s_finN, s_boolD, s_truB, s_setAll0, s_setAll1, s_op1, s_op2, s_abs, s_addI, s_subI, eqI, neI, ltI, gtI, leI, geI, mkTup1, mkTup2, mkTup3, idx_t0, idx_t1, idx_t2, obS, omS, List.set_cons_zero, List.set_cons_succ, s_cNone, s_cPart, s_intD, s_cRng1, s_walkL, s_walkT, s_lenT, s_lenL, s_lenS, s_slT, s_slL, if_true, if_false, decide_true, decide_false, Bool.not_true, Bool.not_false, Bool.and_true, Bool.and_false, Bool.true_and, Bool.false_and, Bool.false_eq_true, decide_eq_true_eq, drawB, e1, c1, f1, m1, m2, m3, m4, m5, m6, m7, hA, q2, e2, c2, f2, q3, e3, c3, m8, m9, f3, hp, f4, f5, hf]
  · refine ⟨((B * B * B).fmod p3).fmod base, rest.fdiv base, (B * B * B).fmod p3, (fmod_rng _ hb).1, (fmod_rng _ hb).2, ?_⟩
    simp only [s_sSeq, s_sNil, s_sRet, s_sRetT, s_sIf, s_sAsg, s_sPar, s_sSetM, s_cND, s_cC, s_cB, s_cU, s_cTup, s_cLst, s_cNil, s_cCons, s_cCall, s_cFn, s_cIx, s_cAnd, s_cOr, s_cNot, s_cIf, s_cTr, s_cBT, s_cAndT, s_cOrT, s_cNotT, s_cCh, s_cChT, s_cSl, s_sFor, s_cWalk, s_cLc, s_lcOne, s_cTrue, s_sApp, s_gN, s_gT, s_gsNil, s_gsCons, s_cV0, s_cVs, s_finR, s_finN, s_boolD, s_truB, s_setAll0, s_setAll1, s_op1, s_op2, s_abs, s_addI, s_subI, eqI, neI, ltI, gtI, leI, geI, mkTup1, mkTup2, mkTup3, idx_t0, idx_t1, idx_t2, obS, omS, List.set_cons_zero, List.set_cons_succ, s_cNone, s_cPart, s_intD, s_cRng1, s_walkL, s_walkT, s_lenT, s_lenL, s_lenS, s_slT, s_slL, if_true, if_false, decide_true, decide_false, Bool.not_true, Bool.not_false, Bool.and_true, Bool.and_false, Bool.true_and, Bool.false_and, Bool.false_eq_true, decide_eq_true_eq, drawB, e1, c1, f1, m1, m2, m3, m4, m5, m6, m7, hA, q2, e2, c2, f2, q3, e3, c3, m8, m9, f3, hp, f4, f5, hf]
/-- the whole loop -/
theorem draw_loop (F : Fn) (s m : D) (k : Nat) (base cell : Int) (hk : k ≤ 1000) (hb : 0 < base) (hb2 : base < 2 ^ 31) : ∀ (js : List Nat) (rest : Int) (row : List Int) (x8 x9 : Option D), (∀ j ∈ js, j ≤ 1000) → row.length + js.length ≤ 1000 →
    ∃ (out : List Int) (rest' : Int) (y8 y9 : Option D), out.length = js.length ∧ (∀ x ∈ out, 0 ≤ x ∧ x < base) ∧ forD (gN 8) (drawB F) (js.map fun i => .int (i : Nat)) [some s, some (.int (k : Int)), some m, some (.int base), some (.tup primesD), some (.int cell), some (.int rest), some (.lst (row.map .int)), x8, x9] =
      some (.nx [some s, some (.int (k : Int)), some m, some (.int base), some (.tup primesD), some (.int cell), some (.int rest'), some (.lst ((row ++ out).map .int)), y8, y9])
  | [], rest, row, x8, x9, _, _ => ⟨[], rest, x8, x9, rfl, by simp, by simp [forD]⟩
  | j :: js, rest, row, x8, x9, hj, hl => by
    rw [List.length_cons] at hl
    obtain ⟨d, r1, y9, h1, h2, h3⟩ := draw_step F s m k j base cell rest (row.map .int) x9 hk (hj j List.mem_cons_self) hb hb2 (by rw [List.length_map]; omega)
    obtain ⟨out, r2, y8, y9', h4, h5, h6⟩ := draw_loop F s m k base cell hk hb hb2 js r1 (row ++ [d]) (some (.int (j : Int))) (some (.int y9)) (fun i hi => hj i (List.mem_cons_of_mem _ hi)) (by simp; omega)
    refine ⟨d :: out, r2, y8, y9', by simp [h4], ?_, ?_⟩
    · intro x hx
      rcases List.mem_cons.mp hx with rfl | hx
      · exact ⟨h1, h2⟩
      · exact h5 x hx
    · rw [List.map_cons, forD]
      simp only [s_gN, obS, List.set_cons_succ, List.set_cons_zero]
      rw [h3]
      simp only [obS]
      rw [List.map_append] at h6
      have e : (row ++ [d]) ++ out = row ++ d :: out := by simp
      rw [e] at h6
      exact h6
end RE
namespace L
theorem draws_eq : b__law_draws = sSeq (sAsg (cTup (cCons (cC (.int 2147483647)) (cCons (cC (.int 2147483629)) (cCons (cC (.int 2147483587)) (cCons (cC (.int 2147483579)) (cCons (cC (.int 2147483563)) (cCons (cC (.int 2147483549)) (cCons (cC (.int 2147483543)) (cCons (cC (.int 2147483497)) (cNil)))))))))) (gN 4)) (sSeq (sAsg (cFn "_law_cell" (cCons (cV 0) (cCons (cV 1) (cNil)))) (gN 5)) (sSeq (sAsg (cC (.int 0)) (gN 6)) (sSeq (sIf (cBT geD (cV 5) (cB powD (cC (.int 10)) (cC (.int 18)))) (sSeq (sAsg (cV 5) (gN 6)) (sNil)) (sNil)) (sSeq (sSetM 7 (cND (cLst (cNil)))) (sSeq (sFor (cRng1 (cV 2)) (gN 8) drawB) (sSeq (sRet (cV 7)) (sNil))))))) := rfl
theorem draws_pre (F : Fn) (R : SS) (s m : D) (k base c : Int) (hc : F "_law_cell" [s, .int k] = some (.int c)) : ∃ rest : Int, (sSeq (sAsg (cTup (cCons (cC (.int 2147483647)) (cCons (cC (.int 2147483629)) (cCons (cC (.int 2147483587)) (cCons (cC (.int 2147483579)) (cCons (cC (.int 2147483563)) (cCons (cC (.int 2147483549)) (cCons (cC (.int 2147483543)) (cCons (cC (.int 2147483497)) (cNil)))))))))) (gN 4)) (sSeq (sAsg (cFn "_law_cell" (cCons (cV 0) (cCons (cV 1) (cNil)))) (gN 5)) (sSeq (sAsg (cC (.int 0)) (gN 6)) (sSeq (sIf (cBT geD (cV 5) (cB powD (cC (.int 10)) (cC (.int 18)))) (sSeq (sAsg (cV 5) (gN 6)) (sNil)) (sNil)) (sSeq (sSetM 7 (cND (cLst (cNil)))) R))))) F [some s, some (.int k), some m, some (.int base), none, none, none, none, none, none] = R F [some s, some (.int k), some m, some (.int base), some (.tup primesD), some (.int c), some (.int rest), some (.lst []), none, none] := by
  have pw : powD (.int 10) (.int 18) = some (.int 1000000000000000000) := by simp [powD]
  by_cases hp : (1000000000000000000 : Int) ≤ c
  · refine ⟨c, ?_⟩
    simp only [s_sSeq, s_sNil, s_sRet, s_sRetT, s_sIf, s_sAsg, s_sPar, s_sSetM, s_cND, s_cC, s_cB, s_cU, s_cTup, s_cLst, s_cNil, s_cCons, s_cCall, s_cFn, s_cIx, s_cAnd, s_cOr, s_cNot, s_cIf, s_cTr, s_cBT, s_cAndT, s_cOrT, s_cNotT, s_cCh, s_cChT, s_cSl, s_sFor, s_cWalk, s_cLc, s_lcOne, s_cTrue, s_sApp, s_gN, s_gT, s_gsNil, s_gsCons, s_cV0, s_cVs, s_finR, s_finN, s_boolD, s_truB, s_setAll0, s_setAll1, s_op1, s_op2, s_abs, s_addI, s_subI, eqI, neI, ltI, gtI, leI, geI, mkTup1, mkTup2, mkTup3, idx_t0, idx_t1, idx_t2, obS, omS, List.set_cons_zero, List.set_cons_succ, s_cNone, s_cPart, s_intD, s_cRng1, s_walkL, s_walkT, s_lenT, s_lenL, s_lenS, s_slT, s_slL, if_true, if_false, decide_true, decide_false, Bool.not_true, Bool.not_false, Bool.and_true, Bool.and_false, Bool.true_and, Bool.false_and, Bool.false_eq_true, decide_eq_true_eq, hc, pw, hp, mk8, mk0, isDicL]
  · refine ⟨0, ?_⟩
    simp only [s_sSeq, s_sNil, s_sRet, s_sRetT, s_sIf, s_sAsg, s_sPar, s_sSetM, s_cND, s_cC, s_cB, s_cU, s_cTup, s_cLst, s_cNil, s_cCons, s_cCall, s_cFn, s_cIx, s_cAnd, s_cOr, s_cNot, s_cIf, s_cTr, s_cBT, s_cAndT, s_cOrT, s_cNotT, s_cCh, s_cChT, s_cSl, s_sFor, s_cWalk, s_cLc, s_lcOne, s_cTrue, s_sApp, s_gN, s_gT, s_gsNil, s_gsCons, s_cV0, s_cVs, s_finR, s_finN, s_boolD, s_truB, s_setAll0, s_setAll1, s_op1, s_op2, s_abs, s_addI, s_subI, eqI, neI, ltI, gtI, leI, geI, mkTup1, mkTup2, mkTup3, idx_t0, idx_t1, idx_t2, obS, omS, List.set_cons_zero, List.set_cons_succ, s_cNone, s_cPart, s_intD, s_cRng1, s_walkL, s_walkT, s_lenT, s_lenL, s_lenS, s_slT, s_slL, if_true, if_false, decide_true, decide_false, Bool.not_true, Bool.not_false, Bool.and_true, Bool.and_false, Bool.true_and, Bool.false_and, Bool.false_eq_true, decide_eq_true_eq, hc, pw, hp, mk8, mk0, isDicL]
theorem draws_post (F : Fn) (many : Nat) (base c : Int) (rest : Int) (out : List Int) (r' : Int) (y8 y9 : Option D) (hr : rng1D (.int (many : Int)) = some ((List.range many).map fun i => .int (i : Nat)))
   (s : D) (k : Int) (h3 : forD (gN 8) (drawB F) ((List.range many).map fun i => .int (i : Nat)) [some s, some (.int (k : Int)), some (.int (many : Int)), some (.int base), some (.tup primesD), some (.int c), some (.int rest), some (.lst []), none, none] =
      some (.nx [some s, some (.int (k : Int)), some (.int (many : Int)), some (.int base), some (.tup primesD), some (.int c), some (.int r'), some (.lst (out.map .int)), y8, y9])) :
    ((sSeq (sFor (cRng1 (cV 2)) (gN 8) drawB) (sSeq (sRet (cV 7)) (sNil))) F [some s, some (.int (k : Int)), some (.int (many : Int)), some (.int base), some (.tup primesD), some (.int c), some (.int rest), some (.lst []), none, none]).bind (fin false) = some (.lst (out.map .int)) := by
  have e1 : sFor (cRng1 (cV 2)) (gN 8) drawB F [some s, some (.int (k : Int)), some (.int (many : Int)), some (.int base), some (.tup primesD), some (.int c), some (.int rest), some (.lst []), none, none] = some (.nx [some s, some (.int (k : Int)), some (.int (many : Int)), some (.int base), some (.tup primesD), some (.int c), some (.int r'), some (.lst (out.map .int)), y8, y9]) := by
    rw [s_sFor, s_cRng1, s_cVs, s_cVs, s_cV0, obS, hr, obS]
    exact h3
  rw [s_sSeq, e1]
  rfl
theorem draws_ev (n : Nat) (ns : List Int) (k many : Nat) (base : Int) (hn : ns.length ≤ 63) (hk : k ≤ 1000) (hm : many ≤ 1000) (hb : 0 < base) (hb2 : base < 2 ^ 31) :
    ∃ out : List Int, out.length = many ∧ (∀ x ∈ out, 0 ≤ x ∧ x < base) ∧ lvl (DT rows) (n + 2) "_law_draws" [.scr ns, .int (k : Int), .int (many : Int), .int base] = some (.lst (out.map .int)) := by
  obtain ⟨c, hc⟩ := cell_ev n ns k hn hk
  rw [v__law_draws, draws_eq]
  obtain ⟨rest, e⟩ := draws_pre (lvl (DT rows) (n + 1)) (sSeq (sFor (cRng1 (cV 2)) (gN 8) drawB) (sSeq (sRet (cV 7)) (sNil))) (.scr ns) (.int (many : Int)) (k : Int) base c hc
  rw [e]
  obtain ⟨out, r', y8, y9, h1, h2, h3⟩ := draw_loop (lvl (DT rows) (n + 1)) (.scr ns) (.int (many : Int)) k base c hk hb hb2 (List.range many) rest [] none none (fun j hj => by have := List.mem_range.mp hj; omega) (by simp; omega)
  have hr : rng1D (.int (many : Int)) = some ((List.range many).map fun i => .int (i : Nat)) := rng1_ev (by omega)
  exact ⟨out, by rw [h1, List.length_range], h2, draws_post _ many base c rest out r' y8 y9 hr _ _ h3⟩
end L
namespace L
theorem truly_ev (n : Nat) (a b : Bool) : lvl (DT rows) (n + 1) "_law_truly" [.bl a, .bl b] = some (.bl (decide (a = b))) := by
  rw [v__law_truly]
  have e : isiD ["bool"] (.bl a) = some (.bl true) := rfl
  simp only [s_sSeq, s_sNil, s_sRet, s_sRetT, s_sIf, s_sAsg, s_sPar, s_sSetM, s_cND, s_cC, s_cB, s_cU, s_cTup, s_cLst, s_cNil, s_cCons, s_cCall, s_cFn, s_cIx, s_cAnd, s_cOr, s_cNot, s_cIf, s_cTr, s_cBT, s_cAndT, s_cOrT, s_cNotT, s_cCh, s_cChT, s_cSl, s_sFor, s_cWalk, s_cLc, s_lcOne, s_cTrue, s_sApp, s_gN, s_gT, s_gsNil, s_gsCons, s_cV0, s_cVs, s_finR, s_finN, s_boolD, s_truB, s_setAll0, s_setAll1, s_op1, s_op2, s_abs, s_addI, s_subI, eqI, neI, ltI, gtI, leI, geI, mkTup1, mkTup2, mkTup3, idx_t0, idx_t1, idx_t2, obS, omS, List.set_cons_zero, List.set_cons_succ, s_cNone, s_cPart, s_intD, s_cRng1, s_walkL, s_walkT, s_lenT, s_lenL, s_lenS, s_slT, s_slL, if_true, if_false, decide_true, decide_false, Bool.not_true, Bool.not_false, Bool.and_true, Bool.and_false, Bool.true_and, Bool.false_and, Bool.false_eq_true, decide_eq_true_eq, b__law_truly, e, eq_bl]
end L
end
section
open PySem PySem.Spec PyProof.Rows L2 RE
namespace RE
/-- neighbours by < -/
def adjB : List D → List Bool
  | d :: e :: l => ltv d e :: adjB (e :: l)
  | _ => []
def risB (l : List D) : Bool := (adjB l).all id
theorem adj_len : ∀ l : List D, (adjB l).length ≤ l.length
  | [] => Nat.le_refl _
  | [_] => by simp [adjB]
  | d :: e :: l => by
    have := adj_len (e :: l)
    simp only [adjB, List.length_cons] at this ⊢
    omega
theorem ris_cons {d e : D} {l : List D} : risB (d :: e :: l) = (ltv d e && risB (e :: l)) := rfl
/-- rising, where < is transitive -/
theorem ris_iff {α : Type} (f : α → D) (tr : ∀ a b c, ltv (f a) (f b) = true → ltv (f b) (f c) = true → ltv (f a) (f c) = true) : ∀ l : List α, risB (l.map f) = true ↔ l.Pairwise fun a b => ltv (f a) (f b) = true
  | [] => ⟨fun _ => .nil, fun _ => rfl⟩
  | [a] => ⟨fun _ => List.pairwise_singleton _ _, fun _ => rfl⟩
  | a :: b :: l => by
    have ih := ris_iff f tr (b :: l)
    rw [List.map_cons, List.map_cons, ris_cons, Bool.and_eq_true]
    rw [List.map_cons] at ih
    rw [ih]
    constructor
    · rintro ⟨h1, h2⟩
      refine List.pairwise_cons.mpr ⟨fun c hc => ?_, h2⟩
      rcases List.mem_cons.mp hc with rfl | hc
      · exact h1
      · exact tr _ _ _ h1 ((List.pairwise_cons.mp h2).1 c hc)
    · intro h
      obtain ⟨h1, h2⟩ := List.pairwise_cons.mp h
      exact ⟨h1 b List.mem_cons_self, h2⟩
instance (a b : Str) : Decidable (ltT a b) := inferInstanceAs (Decidable (a.cps.toList < b.cps.toList))
/-- pairs of texts -/
def ppD (p : Str × Str) : D := .tup [.str p.1, .str p.2]
theorem pp_lt (a b : Str × Str) : ltv (ppD a) (ppD b) = if a.1 = b.1 then decide (ltT a.2 b.2) else decide (ltT a.1 b.1) := by
  have e : ∀ z : Str × Str, toP (ppD z) = .tuple [.str z.1, .str z.2] := fun z => by simp [ppD, toP, toPs]
  unfold ltv
  rw [e, e, PySem.W.dataLt_pair (by simp [PySem.W.alike]) (by simp [PySem.W.alike]), PySem.W.dataLt_str, PySem.W.dataLt_str]
  simp only [PyData.eqv, beq_iff_eq]
  by_cases h : a.1 = b.1
  · rw [if_pos h, if_pos h]
    by_cases h2 : a.2 = b.2
    · rw [if_pos h2, h2, decide_eq_false (ltT_irr _)]
    · rw [if_neg h2]; rfl
  · rw [if_neg h, if_neg h]; rfl
theorem pp_irr (a : Str × Str) : ltv (ppD a) (ppD a) = false := by rw [pp_lt, if_pos rfl, decide_eq_false (ltT_irr _)]
theorem pp_tr (a b c : Str × Str) (h1 : ltv (ppD a) (ppD b) = true) (h2 : ltv (ppD b) (ppD c) = true) : ltv (ppD a) (ppD c) = true := by
  have tr : ∀ {x y z : Str}, ltT x y → ltT y z → ltT x z := fun h g => List.lt_trans h g
  rw [pp_lt] at *
  by_cases e1 : a.1 = b.1
  · rw [if_pos e1, decide_eq_true_eq] at h1
    by_cases e2 : b.1 = c.1
    · rw [if_pos e2, decide_eq_true_eq] at h2
      rw [if_pos (e1.trans e2)]
      exact decide_eq_true (tr h1 h2)
    · rw [if_neg e2, decide_eq_true_eq] at h2
      rw [if_neg (e1 ▸ e2), e1]
      exact decide_eq_true h2
  · rw [if_neg e1, decide_eq_true_eq] at h1
    by_cases e2 : b.1 = c.1
    · rw [if_neg (e2 ▸ e1), ← e2]
      exact decide_eq_true h1
    · rw [if_neg e2, decide_eq_true_eq] at h2
      have h3 := tr h1 h2
      have : a.1 ≠ c.1 := fun e => ltT_irr _ (e ▸ h3)
      rw [if_neg this]
      exact decide_eq_true h3
theorem pp_lin (a b : Str × Str) (h1 : ltv (ppD a) (ppD b) = false) (h2 : ltv (ppD b) (ppD a) = false) : a = b := by
  have lin : ∀ {x y : Str}, ¬ ltT x y → ¬ ltT y x → x = y := fun h g => str_ext (List.le_antisymm (List.not_lt.mp g) (List.not_lt.mp h))
  rw [pp_lt] at h1 h2
  by_cases e : a.1 = b.1
  · rw [if_pos e, decide_eq_false_iff_not] at h1
    rw [if_pos e.symm, decide_eq_false_iff_not] at h2
    exact Prod.ext e (lin h1 h2)
  · rw [if_neg e, decide_eq_false_iff_not] at h1
    rw [if_neg (fun z => e z.symm), decide_eq_false_iff_not] at h2
    exact absurd (lin h1 h2) e
theorem alk_pp (a b : Str × Str) : alk (ppD a) (ppD b) = true := by
  simp [alk, ppD, toP, toPs, PySem.W.alike, PySem.W.alikeAll]
theorem lt_pp (a b : Str × Str) : ltD (ppD a) (ppD b) = some (.bl (ltv (ppD a) (ppD b))) := by
  unfold ltD cmpOk pd2
  rw [alk_pp]
  rfl
theorem eqvL_pp : ∀ l m : List (Str × Str), eqvL (l.map ppD) (m.map ppD) = decide (l = m)
  | [], [] => by simp [eqvL, toPs, PyData.eqvAll]
  | [], b :: m => by simp [eqvL, toPs, PyData.eqvAll]
  | a :: l, [] => by simp [eqvL, toPs, PyData.eqvAll]
  | a :: l, b :: m => by
    rw [List.map_cons, List.map_cons, eqvL_cons, eqvL_pp l m]
    have e : eqv (ppD a) (ppD b) = decide (a = b) := by
      have : eqv (ppD a) (ppD b) = (decide (a.1 = b.1) && decide (a.2 = b.2)) := by
        simp [eqv, ppD, toP, toPs, PyData.eqv, PyData.eqvAll]
        by_cases h1 : a.1 = b.1 <;> by_cases h2 : a.2 = b.2 <;> simp [h1, h2]
      rw [this, ← Bool.decide_and]
      exact decide_eq_decide.mpr ⟨fun h => Prod.ext h.1 h.2, fun h => by rw [h]; exact ⟨rfl, rfl⟩⟩
    rw [e, ← Bool.decide_and]
    exact decide_eq_decide.mpr (by rw [List.cons.injEq])
theorem nubL_self {α : Type} [DecidableEq α] : ∀ {l : List α}, l.Nodup → nubL l = l
  | [], _ => rfl
  | a :: l, h => by
    obtain ⟨h1, h2⟩ := List.nodup_cons.mp h
    unfold nubL
    rw [if_neg h1, nubL_self h2]
theorem nubL_map {α β : Type} [DecidableEq α] [DecidableEq β] (f : α → β) (inj : ∀ a b, f a = f b → a = b) : ∀ l : List α, nubL (l.map f) = (nubL l).map f
  | [] => rfl
  | a :: l => by
    rw [List.map_cons, nubL, nubL]
    have : f a ∈ l.map f ↔ a ∈ l := ⟨fun h => by
      obtain ⟨b, hb, e⟩ := List.mem_map.mp h
      rw [← inj _ _ e]; exact hb, fun h => List.mem_map.mpr ⟨a, h, rfl⟩⟩
    by_cases h : a ∈ l
    · rw [if_pos h, if_pos (this.mpr h), nubL_map f inj l]
    · rw [if_neg h, if_neg (fun z => h (this.mp z)), nubL_map f inj l, List.map_cons]
theorem sortL_same {l : List D} (h : l.Pairwise fun d e => ltv e d = false) : sortL l = l := by
  unfold sortL
  refine List.mergeSort_of_pairwise (h.imp fun {d e} z => ?_)
  show (!ltv e d) = true
  rw [z]; rfl
noncomputable def ordP (l : List (Str × Str)) : List (Str × Str) := l.mergeSort fun a b => PySem.W.dataLe false (fun a => toP (ppD a)) a b
theorem ordP_map (l : List (Str × Str)) : sortL (l.map ppD) = (ordP l).map ppD := (sortL_map ppD l).symm
theorem ordP_perm (l : List (Str × Str)) : (ordP l).Perm l := List.mergeSort_perm _ _
theorem ordP_up {l : List (Str × Str)} (nd : l.Nodup) : (ordP l).Pairwise fun a b => ltv (ppD a) (ppD b) = true := by
  have t : PySem.W.TotalLe (PySem.W.dataLe false fun a : Str × Str => toP (ppD a)) := PySem.W.sortLe_total _ _ _
  have p1 := PySem.W.sort_pairwise t l
  have p2 : (ordP l).Nodup := (ordP_perm l).nodup_iff.mpr nd
  have := List.pairwise_and_iff.mpr ⟨p1, p2⟩
  refine this.imp fun {a b} z => ?_
  obtain ⟨z1, z2⟩ := z
  have z1 : (!ltv (ppD b) (ppD a)) = true := z1
  rw [Bool.not_eq_true'] at z1
  cases h : ltv (ppD a) (ppD b) with
  | true => rfl
  | false => exact absurd (pp_lin a b h z1) z2
theorem keysT_pp : ∀ l : List (Str × Str), keysT (l.map ppD) = some (l.map fun p => [(.inr p.1 : Key), .inr p.2])
  | [] => rfl
  | z :: l => by
    rw [List.map_cons, keysT, keysT_pp l]
    rfl
theorem sortOk_pp {l : List (Str × Str)} (hl : l.length ≤ 1000) : sortOk (l.map ppD) = true := by
  unfold sortOk
  have h1 : (l.map ppD).all (pd 60) = true := by
    rw [List.all_eq_true]; intro x hx
    obtain ⟨p, _, rfl⟩ := List.mem_map.mp hx
    rfl
  have h2 : ((l.map ppD).all fun d => (l.map ppD).all fun e => alk d e) = true := by
    rw [List.all_eq_true]; intro x hx
    obtain ⟨p, _, rfl⟩ := List.mem_map.mp hx
    rw [List.all_eq_true]; intro y hy
    obtain ⟨q, _, rfl⟩ := List.mem_map.mp hy
    exact alk_pp p q
  have h3 : (l.map ppD).all isTup1 = true := by
    rw [List.all_eq_true]; intro x hx
    obtain ⟨p, _, rfl⟩ := List.mem_map.mp hx
    rfl
  rw [h1, h2, h3, fits_of (by rw [List.length_map]; omega)]; rfl
theorem nubL_len {α : Type} [DecidableEq α] : ∀ l : List α, (nubL l).length ≤ l.length
  | [] => Nat.le_refl _
  | a :: l => by
    have := nubL_len l
    unfold nubL
    split
    · rw [List.length_cons]; omega
    · rw [List.length_cons, List.length_cons]; omega
theorem set_pp {l : List (Str × Str)} (hl : l.length < 64) : setSortT (.lst (l.map ppD)) = some (.lst ((ordP (nubL l)).map ppD)) := by
  have e : setSortT (.lst (l.map ppD)) = setSortTL (l.map ppD) := rfl
  rw [e, setSortTL, keysT_pp, obS]
  rw [nubL_map _ (fun a b q => by
    injection q with q1 q2
    injection q1 with q1
    injection q2 with q2
    injection q2 with q2
    exact Prod.ext q1 q2)]
  have em : ((nubL l).map fun p => [(.inr p.1 : Key), .inr p.2]).map kD = (nubL l).map ppD := by
    rw [List.map_map]; rfl
  have := nubL_len l
  rw [em, sortOk_pp (by omega), List.length_map, decide_eq_true hl, ordP_map]
  rfl
theorem eq_set_pp (l : List (Str × Str)) : eqD (.lst (l.map ppD)) (.lst ((ordP (nubL l)).map ppD)) = some (.bl (risB (l.map ppD))) := by
  have pdp : ∀ m : List (Str × Str), pd 64 (.lst (m.map ppD)) = true := fun m => by
    rw [pd_lst 63, List.all_eq_true]
    intro x hx
    obtain ⟨p, _, rfl⟩ := List.mem_map.mp hx
    rfl
  have e : eqv (.lst (l.map ppD)) (.lst ((ordP (nubL l)).map ppD)) = eqvL (l.map ppD) ((ordP (nubL l)).map ppD) := by simp [eqv, eqvL, toP, PyData.eqv]
  unfold eqD pd2
  rw [pdp, pdp, e, eqvL_pp]
  refine congrArg (fun b => some (D.bl b)) ?_
  rw [Bool.eq_iff_iff, decide_eq_true_eq, ris_iff ppD pp_tr]
  constructor
  · intro h
    rw [h]
    exact ordP_up (nubL_nodup l)
  · intro h
    have nd : l.Nodup := by
      unfold List.Nodup
      refine h.imp fun {a b} z q => ?_
      rw [q, pp_irr] at z
      cases z
    rw [nubL_self nd]
    have s := ordP_map l
    rw [sortL_same] at s
    · have inj : ∀ a b : Str × Str, ppD a = ppD b → a = b := fun a b q => by
        injection q with q
        injection q with q1 q2
        injection q2 with q2 _
        injection q1 with q1
        injection q2 with q2
        exact Prod.ext q1 q2
      have : ∀ {A B : List (Str × Str)}, A.map ppD = B.map ppD → A = B := fun {A} => by
        induction A with
        | nil => intro B h; cases B with
          | nil => rfl
          | cons _ _ => cases h
        | cons a A ih => intro B h; cases B with
          | nil => cases h
          | cons b B =>
            rw [List.map_cons, List.map_cons] at h
            injection h with h1 h2
            rw [inj _ _ h1, ih h2]
      exact this s
    · rw [List.pairwise_map]
      refine h.imp fun {a b} z => ?_
      cases q : ltv (ppD b) (ppD a) with
      | false => rfl
      | true => exact absurd (pp_tr _ _ _ z q) (by rw [pp_irr]; decide)
end RE
namespace L
theorem rises_ev (n : Nat) {ds : List D} (hl : ds.length ≤ 100) (h : ∀ d ∈ ds, ∀ e ∈ ds, ltD d e = some (.bl (ltv d e))) : lvl (DT rows) (n + 1) "rises" [.lst ds] = some (.bl (risB ds)) := by
  rw [v_rises]
  generalize lvl (DT rows) n = F
  have lc : ∀ l : List D, (∀ d ∈ l, ∀ e ∈ l, ltD d e = some (.bl (ltv d e))) → lcAll (lcOne (gT (gsCons (gN 1) (gsCons (gN 2) (gsNil)))) (cTrue) (cB ltD (cV 1) (cV 2)) F [some (.lst ds), none, none]) (zipL l (l.drop 1)) = some ((adjB l).map .bl) := by
    intro l
    induction l with
    | nil => intro _; rfl
    | cons d l ih =>
      intro h
      cases l with
      | nil => rfl
      | cons e l =>
        have ih := ih fun a ha b hb => h a (List.mem_cons_of_mem _ ha) b (List.mem_cons_of_mem _ hb)
        have hd := h d List.mem_cons_self e (List.mem_cons_of_mem _ List.mem_cons_self)
        show lcAll _ (.tup [d, e] :: zipL (e :: l) l) = _
        have ih : lcAll _ (zipL (e :: l) l) = _ := ih
        rw [lcAll, ih]
        have one : lcOne (gT (gsCons (gN 1) (gsCons (gN 2) (gsNil)))) (cTrue) (cB ltD (cV 1) (cV 2)) F [some (.lst ds), none, none] (.tup [d, e]) = some [.bl (ltv d e)] := by
          rw [s_lcOne, show gT (gsCons (gN 1) (gsCons (gN 2) (gsNil))) (.tup [d, e]) [some (.lst ds), none, none] = some [some (.lst ds), some d, some e] from rfl]
          simp only [s_sSeq, s_sNil, s_sRet, s_sRetT, s_sIf, s_sAsg, s_sPar, s_sSetM, s_cND, s_cC, s_cB, s_cU, s_cTup, s_cLst, s_cNil, s_cCons, s_cCall, s_cFn, s_cIx, s_cAnd, s_cOr, s_cNot, s_cIf, s_cTr, s_cBT, s_cAndT, s_cOrT, s_cNotT, s_cCh, s_cChT, s_cSl, s_sFor, s_cWalk, s_cLc, s_lcOne, s_cTrue, s_sApp, s_gN, s_gT, s_gsNil, s_gsCons, s_cV0, s_cVs, s_finR, s_finN, s_boolD, s_truB, s_setAll0, s_setAll1, s_op1, s_op2, s_abs, s_addI, s_subI, eqI, neI, ltI, gtI, leI, geI, mkTup1, mkTup2, mkTup3, idx_t0, idx_t1, idx_t2, obS, omS, List.set_cons_zero, List.set_cons_succ, s_cNone, s_cPart, s_intD, s_cRng1, s_walkL, s_walkT, s_lenT, s_lenL, s_lenS, s_slT, s_slL, if_true, if_false, decide_true, decide_false, Bool.not_true, Bool.not_false, Bool.and_true, Bool.and_false, Bool.true_and, Bool.false_and, Bool.false_eq_true, decide_eq_true_eq, s_cEnum, s_sPut, s_revL, s_revT, s_listL, s_listT, s_tupleL, s_tupleT, s_isDicLst, s_isDicTup, s_isDicInt, wipeE_nil, wipeE_cons, hd]
        rw [one]
        rfl
  have L1 := lc ds h
  have L2 := mkLst_ev (ds := (adjB ds).map .bl) (by rw [List.length_map]; have := adj_len ds; omega)
  have L3 := allD_map (fun b : Bool => b) (adjB ds)
  have sl : slcD (some 1) none (.lst ds) = some (.lst (ds.drop 1)) := by
    rw [s_slL]
    have := cut_from ds 1
    rw [show ((1 : Nat) : Int) = 1 from rfl] at this
    rw [this]
  have i1 : RE.intD (.int 1) = some 1 := rfl
  have E1 : cLc [1, 2] (cZip (cV 0) (cSl (cV 0) (cPart (cC (.int 1))) (cNone))) (gT (gsCons (gN 1) (gsCons (gN 2) (gsNil)))) (cTrue) (cB ltD (cV 1) (cV 2)) F [some (.lst ds), none, none] = some (.lst ((adjB ds).map .bl)) := by
    have z : ∀ (f g : SE) (ρ : RE.Env), cZip f g F ρ = ((f F ρ).bind walkL).bind fun xs => ((g F ρ).bind walkL).map (zipL xs) := fun _ _ _ => rfl
    rw [s_cLc, z]
    simp only [s_cSl, s_cPart, s_cC, s_cNone, s_cV0, obS, omS, i1, sl, s_walkL, wipeE_cons, wipeE_nil, List.set_cons_succ, List.set_cons_zero]
    rw [L1, obS, L2]
  generalize hE : (cLc [1, 2] (cZip (cV 0) (cSl (cV 0) (cPart (cC (.int 1))) (cNone))) (gT (gsCons (gN 1) (gsCons (gN 2) (gsNil)))) (cTrue) (cB ltD (cV 1) (cV 2))) = E at *
  have L3 : allD (.lst ((adjB ds).map .bl)) = some (.bl (risB ds)) := L3
  unfold b_rises
  rw [hE]
  simp only [s_sSeq, s_sNil, s_sRet, s_sRetT, s_sIf, s_sAsg, s_sPar, s_sSetM, s_cND, s_cC, s_cB, s_cU, s_cTup, s_cLst, s_cNil, s_cCons, s_cCall, s_cFn, s_cIx, s_cAnd, s_cOr, s_cNot, s_cIf, s_cTr, s_cBT, s_cAndT, s_cOrT, s_cNotT, s_cCh, s_cChT, s_cSl, s_sFor, s_cWalk, s_cLc, s_lcOne, s_cTrue, s_sApp, s_gN, s_gT, s_gsNil, s_gsCons, s_cV0, s_cVs, s_finR, s_finN, s_boolD, s_truB, s_setAll0, s_setAll1, s_op1, s_op2, s_abs, s_addI, s_subI, eqI, neI, ltI, gtI, leI, geI, mkTup1, mkTup2, mkTup3, idx_t0, idx_t1, idx_t2, obS, omS, List.set_cons_zero, List.set_cons_succ, s_cNone, s_cPart, s_intD, s_cRng1, s_walkL, s_walkT, s_lenT, s_lenL, s_lenS, s_slT, s_slL, if_true, if_false, decide_true, decide_false, Bool.not_true, Bool.not_false, Bool.and_true, Bool.and_false, Bool.true_and, Bool.false_and, Bool.false_eq_true, decide_eq_true_eq, s_cEnum, s_sPut, s_revL, s_revT, s_listL, s_listT, s_tupleL, s_tupleT, s_isDicLst, s_isDicTup, s_isDicInt, wipeE_nil, wipeE_cons, E1, L3]
end L
end
section
open PySem PySem.Spec PyProof.Rows L2 RE
namespace L
noncomputable def lfC1 : SS := sSeq (sIf (cOrT (cNotT (cTr (cFn "_law_number" (cCons (cIx (cV 1) (cC (.int 2))) (cCons (cC (.int 0)) (cCons (cB powD (cC (.int 10)) (cC (.int 6))) (cNil))))))) (cOrT (cNotT (cTr (cFn "_law_number" (cCons (cIx (cV 1) (cC (.int 3))) (cCons (cC (.int 0)) (cCons (cB powD (cC (.int 10)) (cC (.int 6))) (cNil))))))) (cBT gtD (cIx (cV 1) (cC (.int 2))) (cIx (cV 1) (cC (.int 3)))))) (sSeq (sRet (cC (.bl false))) (sNil)) (sNil)) (sNil)
noncomputable def lfC0 : SS := sSeq (sIf (cOrT (cNotT (cTr (cU (isiD ["tuple"]) (cV 1)))) (cOrT (cBT neD (cCall (op1 lenD) (cCons (cV 1) (cNil))) (cC (.int 4))) (cOrT (cNotT (cTr (cFn "_law_is_name" (cCons (cIx (cV 1) (cC (.int 0))) (cNil))))) (cNotT (cTr (cFn "_law_is_name" (cCons (cIx (cV 1) (cC (.int 1))) (cNil)))))))) (sSeq (sRet (cC (.bl false))) (sNil)) (sNil)) lfC1
noncomputable def lf3 : SS := sSeq (sRet (cB eqD (cV 2) (cU setSortT (cV 2)))) (sNil)
noncomputable def lf2 : SS := sSeq (sAsg (cLc [1] (cWalk (cV 0)) (gN 1) (cTrue) (cSl (cV 1) (cNone) (cPart (cC (.int 2))))) (gN 2)) lf3
noncomputable def lf1 : SS := sSeq (sFor (cWalk (cV 0)) (gN 1) lfC0) lf2
noncomputable def lf0 : SS := sSeq (sIf (cOrT (cNotT (cTr (cU (isiD ["tuple"]) (cV 0)))) (cBT gtD (cCall (op1 lenD) (cCons (cV 0) (cNil))) (cC (.int 24)))) (sSeq (sRet (cC (.bl false))) (sNil)) (sNil)) lf1
noncomputable def flC0 : SS := sSeq (sPut 4 (cV 6) (cB subD (cB modD (cIx (cV 0) (cB addD (cC (.int 1)) (cV 5))) (cC (.int 199))) (cC (.int 99)))) (sNil)
noncomputable def flD1 : SS := sSeq (sIf (cAndT (cBT inD (cV 6) (cV 2)) (cAndT (cBT ltD (cCall (op1 lenD) (cCons (cV 3) (cNil))) (cC (.int 24))) (cBT gtD (cB modD (cIx (cV 0) (cB addD (cC (.int 8)) (cV 5))) (cC (.int 5))) (cC (.int 1))))) (sSeq (sAsg (cB subD (cB addD (cC (.int 1000)) (cB modD (cIx (cV 0) (cB addD (cC (.int 50)) (cB fdivD (cV 5) (cC (.int 6))))) (cC (.int 5000)))) (cIx (cV 4) (cV 6))) (gN 8)) (sSeq (sAsg (cB modD (cB fdivD (cIx (cV 0) (cB addD (cC (.int 8)) (cV 5))) (cC (.int 5))) (cB addD (cV 1) (cC (.int 1)))) (gN 9)) (sSeq (sAsg (cB modD (cB fdivD (cIx (cV 0) (cB addD (cC (.int 8)) (cV 5))) (cC (.int 300))) (cB addD (cV 1) (cC (.int 1)))) (gN 10)) (sSeq (sApp 3 (cTup (cCons (cV 7) (cCons (cV 6) (cCons (cB subD (cV 8) (cV 9)) (cCons (cB addD (cV 8) (cV 10)) (cNil))))))) (sNil))))) (sNil)) (sNil)
noncomputable def flD0 : SS := sSeq (sPar [7, 6] (cCons (cIx (cC (.str "uvwxyz")) (cB fdivD (cV 5) (cC (.int 6)))) (cCons (cIx (cLst (cCons (cC (.str "ann")) (cCons (cC (.str "bo")) (cCons (cC (.str "cy")) (cCons (cC (.str "di")) (cCons (cC (.str "eve")) (cCons (cC (.str "fay")) (cNil)))))))) (cB modD (cV 5) (cC (.int 6)))) (cNil)))) flD1
noncomputable def fl3 : SS := sSeq (sRet (cTup (cCons (cCall (op1 tupleD) (cCons (cV 3) (cNil))) (cCons (cV 4) (cNil))))) (sNil)
noncomputable def fl2 : SS := sSeq (sFor (cRng1 (cC (.int 36))) (gN 5) flD0) fl3
noncomputable def fl1 : SS := sSeq (sFor (cEnum (cV 2)) (gT (gsCons (gN 5) (gsCons (gN 6) (gsNil)))) flC0) fl2
noncomputable def fl0 : SS := sSeq (sPar [2, 3, 4] (cCons (cSl (cLst (cCons (cC (.str "ann")) (cCons (cC (.str "bo")) (cCons (cC (.str "cy")) (cCons (cC (.str "di")) (cCons (cC (.str "eve")) (cCons (cC (.str "fay")) (cNil)))))))) (cNone) (cPart (cB addD (cC (.int 1)) (cB modD (cIx (cV 0) (cC (.int 0))) (cC (.int 6)))))) (cCons (cND (cLst (cNil))) (cCons (cC (.dic false [])) (cNil))))) fl1
noncomputable def k11CC2 : SS := sSeq (sAsg (cB addD (cV 2) (cLst (cCons (cV 9) (cCons (cFn "_law_bent" (cCons (cV 9) (cCons (cU revD (cV 8)) (cNil)))) (cCons (cFn "_law_thing" (cCons (cB addD (cSl (cV 4) (cPart (cV 7)) (cNone)) (cSl (cV 4) (cNone) (cPart (cV 7)))) (cCons (cC (.int 0)) (cNil)))) (cNil)))))) (gN 2)) (sNil)
noncomputable def k11CC1 : SS := sSeq (sAsg (cFn "_law_bent" (cCons (cV 5) (cCons (cV 8) (cNil)))) (gN 9)) k11CC2
noncomputable def k11CC0 : SS := sSeq (sAsg (cSl (cV 4) (cPart (cB mulD (cC (.int 4)) (cV 7))) (cPart (cB addD (cB mulD (cC (.int 4)) (cV 7)) (cC (.int 5))))) (gN 8)) k11CC1
noncomputable def k11C3 : SS := sSeq (sFor (cRng1 (cC (.int 12))) (gN 7) k11CC0) (sNil)
noncomputable def k11C2 : SS := sSeq (sAsg (cB addD (cV 2) (cLst (cCons (cV 5) (cCons (cCall (op1 listDD) (cCons (cV 5) (cNil))) (cCons (cU revD (cV 5)) (cCons (cB addD (cV 5) (cSl (cV 5) (cNone) (cPart (cC (.int 1))))) (cNil))))))) (gN 2)) k11C3
noncomputable def k11C1 : SS := sSeq (sAsg (cFn "_law_flashes" (cCons (cV 4) (cCons (cC (.int 9)) (cNil)))) (gT (gsCons (gN 5) (gsCons (gN 6) (gsNil))))) k11C2
noncomputable def k11C0 : SS := sSeq (sAsg (cFn "_law_draws" (cCons (cV 0) (cCons (cV 3) (cCons (cC (.int 60)) (cCons (cC (.int 27720)) (cNil)))))) (gN 4)) k11C1
noncomputable def k11D0 : SS := sSeq (sIf (cNotT (cTr (cFn "_law_truly" (cCons (cFn "are_flashes" (cCons (cV 10) (cNil))) (cCons (cFn "_law_are_flashes" (cCons (cV 10) (cNil))) (cNil)))))) (sSeq (sRet (cC (.bl false))) (sNil)) (sNil)) (sNil)
noncomputable def k115 : SS := sSeq (sRet (cC (.bl true))) (sNil)
noncomputable def k114 : SS := sSeq (sFor (cWalk (cV 2)) (gN 10) k11D0) k115
noncomputable def k113 : SS := sSeq (sFor (cWalk (cTup (cCons (cC (.int 0)) (cCons (cC (.int 2)) (cCons (cC (.int 4)) (cNil)))))) (gN 3) k11C0) k114
noncomputable def k112 : SS := sSeq (sAsg (cB addD (cV 2) (cLst (cCons (cTup (cCons (cTup (cCons (cC (.str "f")) (cCons (cC (.str "ann")) (cCons (cB powD (cC (.int 10)) (cC (.int 6))) (cCons (cB powD (cC (.int 10)) (cC (.int 6))) (cNil)))))) (cNil))) (cCons (cTup (cCons (cTup (cCons (cC (.str "f")) (cCons (cC (.str "ann")) (cCons (cC (.int 5)) (cCons (cB addD (cB powD (cC (.int 10)) (cC (.int 6))) (cC (.int 1))) (cNil)))))) (cNil))) (cCons (cTup (cCons (cTup (cCons (cC (.str "f")) (cCons (cC (.str "ann")) (cCons (cB subD (cC (.int 0)) (cC (.int 1))) (cCons (cC (.int 1)) (cNil)))))) (cNil))) (cNil)))))) (gN 2)) k113
noncomputable def k111 : SS := sSeq (sAsg (cLst (cCons (cTup (cNil)) (cCons (cV 1) (cCons (cSl (cV 1) (cNone) (cPart (cC (.int 24)))) (cCons (cTup (cCons (cTup (cCons (cC (.str "f")) (cCons (cC (.str "ann")) (cCons (cC (.int 1)) (cCons (cC (.int 2)) (cNil)))))) (cCons (cTup (cCons (cC (.str "f")) (cCons (cC (.str "ann")) (cCons (cC (.int 3)) (cCons (cC (.int 4)) (cNil)))))) (cNil)))) (cCons (cTup (cCons (cTup (cCons (cC (.str "f")) (cCons (cC (.str "ann")) (cCons (cC (.int 2)) (cCons (cC (.int 1)) (cNil)))))) (cNil))) (cCons (cTup (cCons (cTup (cCons (cC (.str "f")) (cCons (cC (.str "f")) (cCons (cC (.int 0)) (cCons (cC (.int 0)) (cNil)))))) (cNil))) (cNil)))))))) (gN 2)) k112
noncomputable def k110 : SS := sSeq (sAsg (cCall (op1 tupleD) (cCons (cLc [11] (cWalk (cC (.str "abcdefghijklmnopqrstuvwxy"))) (gN 11) (cTrue) (cTup (cCons (cB addD (cC (.str "f")) (cV 11)) (cCons (cC (.str "ann")) (cCons (cC (.int 1)) (cCons (cC (.int 2)) (cNil))))))) (cNil))) (gN 1)) k111
theorem lf_eq : b__law_are_flashes = lf0 := rfl
theorem fl_eq : b__law_flashes = fl0 := rfl
theorem k11_eq : b_law = k110 := rfl
end L
namespace RE
def flashB : D → Bool
  | .tup [a, b, .int c, d] => (nameB a && nameB b) && (isNumB 0 1000000 (.int c) && isNumB c 1000000 d)
  | _ => false
/-- a flash seen -/
abbrev Fl := (Str × Str) × (Int × Int)
def flD (f : Fl) : D := .tup [.str f.1.1, .str f.1.2, .int f.2.1, .int f.2.2]
theorem isNumB_int {lo hi : Int} {x : D} (h : isNumB lo hi x = true) : ∃ i : Int, x = .int i := by
  cases x <;> first | exact ⟨_, rfl⟩ | exact absurd h (fun z => nomatch z)
theorem flashB_fl {x : D} (h : flashB x = true) : ∃ f : Fl, x = flD f := by
  unfold flashB at h
  split at h
  · rename_i a b c d
    simp only [Bool.and_eq_true] at h
    obtain ⟨⟨h1, h2⟩, _, h4⟩ := h
    obtain ⟨s, rfl, _⟩ := nameB_str h1
    obtain ⟨t, rfl, _⟩ := nameB_str h2
    obtain ⟨j, rfl⟩ := isNumB_int h4
    exact ⟨((s, t), (c, j)), rfl⟩
  · cases h
theorem flashB_len {xs : List D} (h : xs.length ≠ 4) : flashB (.tup xs) = false := by
  match xs, h with
  | [], _ => rfl
  | [_], _ => rfl
  | [_, _], _ => rfl
  | [_, _, c], _ => cases c <;> rfl
  | [_, _, _, _], h => exact absurd rfl h
  | _ :: _ :: c :: _ :: _ :: _, _ => cases c <;> rfl
theorem flashB_of {x : D} (h : ∀ xs, x ≠ .tup xs) : flashB x = false := by
  cases x <;> first | rfl | exact absurd rfl (h _)
theorem flashB_4 (a b c d : D) : flashB (.tup [a, b, c, d]) = ((nameB a && nameB b) && (isNumB 0 1000000 c && match c with
    | .int i => isNumB i 1000000 d
    | _ => false)) := by
  cases c <;> first | rfl | (unfold flashB; split <;> simp_all [isNumB])
def flashesB : D → Bool
  | .tup xs => (decide ((xs.length : Int) ≤ 24) && xs.all flashB) && risB (xs.map fun x => match x with
    | .tup ys => .tup (ys.take 2)
    | _ => .non)
  | _ => false
theorem all_fl : ∀ {xs : List D}, xs.all flashB = true → ∃ fs : List Fl, xs = fs.map flD
  | [], _ => ⟨[], rfl⟩
  | x :: xs, h => by
    rw [List.all_cons, Bool.and_eq_true] at h
    obtain ⟨f, rfl⟩ := flashB_fl h.1
    obtain ⟨fs, rfl⟩ := all_fl h.2
    exact ⟨f :: fs, rfl⟩
end RE
namespace L
theorem is_number_ev (n m : Nat) (x : D) (h : pd m x = true) (lo hi : Int) : lvl (DT rows) (n + 1) "is_number" [x, .int lo, .int hi] = some (.bl (isNumB lo hi x)) := by
  rw [v_is_number]
  exact num_body _ m x h lo hi
theorem law_number_ev (n m : Nat) (x : D) (h : pd m x = true) (lo hi : Int) : lvl (DT rows) (n + 1) "_law_number" [x, .int lo, .int hi] = some (.bl (isNumB lo hi x)) := by
  rw [v__law_number]
  exact num_body _ m x h lo hi
theorem is_flash_ev (n m k : Nat) (x : D) (hx : Sm m k x) : lvl (DT rows) (n + 2) "is_flash" [x] = some (.bl (flashB x)) := by
  rw [v_is_flash]
  rcases ty_tup hx.pd with ⟨xs, rfl, hp⟩ | ⟨h1, h2⟩
  rotate_left
  · rw [flashB_of h1]
    generalize lvl (DT rows) (n + 1) = F
    unfold b_is_flash
    simp only [s_sSeq, s_sNil, s_sRet, s_sRetT, s_sIf, s_sAsg, s_sPar, s_sSetM, s_cND, s_cC, s_cB, s_cU, s_cTup, s_cLst, s_cNil, s_cCons, s_cCall, s_cFn, s_cIx, s_cAnd, s_cOr, s_cNot, s_cIf, s_cTr, s_cBT, s_cAndT, s_cOrT, s_cNotT, s_cCh, s_cChT, s_cSl, s_sFor, s_cWalk, s_cLc, s_lcOne, s_cTrue, s_sApp, s_gN, s_gT, s_gsNil, s_gsCons, s_cV0, s_cVs, s_finR, s_finN, s_boolD, s_truB, s_setAll0, s_setAll1, s_op1, s_op2, s_abs, s_addI, s_subI, eqI, neI, ltI, gtI, leI, geI, mkTup1, mkTup2, mkTup3, idx_t0, idx_t1, idx_t2, obS, omS, List.set_cons_zero, List.set_cons_succ, s_cNone, s_cPart, s_intD, s_cRng1, s_walkL, s_walkT, s_lenT, s_lenL, s_lenS, s_slT, s_slL, if_true, if_false, decide_true, decide_false, Bool.not_true, Bool.not_false, Bool.and_true, Bool.and_false, Bool.true_and, Bool.false_and, Bool.false_eq_true, decide_eq_true_eq, s_cEnum, s_sPut, s_revL, s_revT, s_listL, s_listT, s_tupleL, s_tupleT, s_isDicLst, s_isDicTup, s_isDicInt, wipeE_nil, wipeE_cons, h2]
  have e1 : isiD ["tuple"] (.tup xs) = some (.bl true) := rfl
  by_cases hl : xs.length = 4
  rotate_left
  · have e2 : ((xs.length : Int) = 4) = False := eq_false (by omega)
    rw [flashB_len hl]
    generalize lvl (DT rows) (n + 1) = F
    unfold b_is_flash
    simp only [s_sSeq, s_sNil, s_sRet, s_sRetT, s_sIf, s_sAsg, s_sPar, s_sSetM, s_cND, s_cC, s_cB, s_cU, s_cTup, s_cLst, s_cNil, s_cCons, s_cCall, s_cFn, s_cIx, s_cAnd, s_cOr, s_cNot, s_cIf, s_cTr, s_cBT, s_cAndT, s_cOrT, s_cNotT, s_cCh, s_cChT, s_cSl, s_sFor, s_cWalk, s_cLc, s_lcOne, s_cTrue, s_sApp, s_gN, s_gT, s_gsNil, s_gsCons, s_cV0, s_cVs, s_finR, s_finN, s_boolD, s_truB, s_setAll0, s_setAll1, s_op1, s_op2, s_abs, s_addI, s_subI, eqI, neI, ltI, gtI, leI, geI, mkTup1, mkTup2, mkTup3, idx_t0, idx_t1, idx_t2, obS, omS, List.set_cons_zero, List.set_cons_succ, s_cNone, s_cPart, s_intD, s_cRng1, s_walkL, s_walkT, s_lenT, s_lenL, s_lenS, s_slT, s_slL, if_true, if_false, decide_true, decide_false, Bool.not_true, Bool.not_false, Bool.and_true, Bool.and_false, Bool.true_and, Bool.false_and, Bool.false_eq_true, decide_eq_true_eq, s_cEnum, s_sPut, s_revL, s_revT, s_listL, s_listT, s_tupleL, s_tupleT, s_isDicLst, s_isDicTup, s_isDicInt, wipeE_nil, wipeE_cons, e1, e2]
  match xs, hl with
  | [a, b, c, d], _ =>
    have sm := hx.sub
    have n1 := is_name_ev n _ _ a (sm a (by simp))
    have n2 := is_name_ev n _ _ b (sm b (by simp))
    have n3 := is_number_ev n _ c (hp c (by simp)) 0 1000000
    have n4 := fun i => is_number_ev n _ d (hp d (by simp)) i 1000000
    have e2 : lenD (.tup [a, b, c, d]) = some (.int 4) := rfl
    have i0 : idxD (.tup [a, b, c, d]) (.int 0) = some a := rfl
    have i1 : idxD (.tup [a, b, c, d]) (.int 1) = some b := rfl
    have i2 : idxD (.tup [a, b, c, d]) (.int 2) = some c := rfl
    have i3 : idxD (.tup [a, b, c, d]) (.int 3) = some d := rfl
    rw [flashB_4]
    generalize lvl (DT rows) (n + 1) = F at *
    generalize D.tup [a, b, c, d] = T at *
    cases h1 : nameB a with
    | false =>
      rw [h1] at n1
      unfold b_is_flash
      simp only [s_sSeq, s_sNil, s_sRet, s_sRetT, s_sIf, s_sAsg, s_sPar, s_sSetM, s_cND, s_cC, s_cB, s_cU, s_cTup, s_cLst, s_cNil, s_cCons, s_cCall, s_cFn, s_cIx, s_cAnd, s_cOr, s_cNot, s_cIf, s_cTr, s_cBT, s_cAndT, s_cOrT, s_cNotT, s_cCh, s_cChT, s_cSl, s_sFor, s_cWalk, s_cLc, s_lcOne, s_cTrue, s_sApp, s_gN, s_gT, s_gsNil, s_gsCons, s_cV0, s_cVs, s_finR, s_finN, s_boolD, s_truB, s_setAll0, s_setAll1, s_op1, s_op2, s_abs, s_addI, s_subI, eqI, neI, ltI, gtI, leI, geI, mkTup1, mkTup2, mkTup3, idx_t0, idx_t1, idx_t2, obS, omS, List.set_cons_zero, List.set_cons_succ, s_cNone, s_cPart, s_intD, s_cRng1, s_walkL, s_walkT, s_lenT, s_lenL, s_lenS, s_slT, s_slL, if_true, if_false, decide_true, decide_false, Bool.not_true, Bool.not_false, Bool.and_true, Bool.and_false, Bool.true_and, Bool.false_and, Bool.false_eq_true, decide_eq_true_eq, s_cEnum, s_sPut, s_revL, s_revT, s_listL, s_listT, s_tupleL, s_tupleT, s_isDicLst, s_isDicTup, s_isDicInt, wipeE_nil, wipeE_cons, e1, e2, i0, n1]
    | true =>
      rw [h1] at n1
      cases h2 : nameB b with
      | false =>
        rw [h2] at n2
        unfold b_is_flash
        simp only [s_sSeq, s_sNil, s_sRet, s_sRetT, s_sIf, s_sAsg, s_sPar, s_sSetM, s_cND, s_cC, s_cB, s_cU, s_cTup, s_cLst, s_cNil, s_cCons, s_cCall, s_cFn, s_cIx, s_cAnd, s_cOr, s_cNot, s_cIf, s_cTr, s_cBT, s_cAndT, s_cOrT, s_cNotT, s_cCh, s_cChT, s_cSl, s_sFor, s_cWalk, s_cLc, s_lcOne, s_cTrue, s_sApp, s_gN, s_gT, s_gsNil, s_gsCons, s_cV0, s_cVs, s_finR, s_finN, s_boolD, s_truB, s_setAll0, s_setAll1, s_op1, s_op2, s_abs, s_addI, s_subI, eqI, neI, ltI, gtI, leI, geI, mkTup1, mkTup2, mkTup3, idx_t0, idx_t1, idx_t2, obS, omS, List.set_cons_zero, List.set_cons_succ, s_cNone, s_cPart, s_intD, s_cRng1, s_walkL, s_walkT, s_lenT, s_lenL, s_lenS, s_slT, s_slL, if_true, if_false, decide_true, decide_false, Bool.not_true, Bool.not_false, Bool.and_true, Bool.and_false, Bool.true_and, Bool.false_and, Bool.false_eq_true, decide_eq_true_eq, s_cEnum, s_sPut, s_revL, s_revT, s_listL, s_listT, s_tupleL, s_tupleT, s_isDicLst, s_isDicTup, s_isDicInt, wipeE_nil, wipeE_cons, e1, e2, i0, i1, n1, n2]
      | true =>
        rw [h2] at n2
        cases h3 : isNumB 0 1000000 c with
        | false =>
          rw [h3] at n3
          unfold b_is_flash
          simp only [s_sSeq, s_sNil, s_sRet, s_sRetT, s_sIf, s_sAsg, s_sPar, s_sSetM, s_cND, s_cC, s_cB, s_cU, s_cTup, s_cLst, s_cNil, s_cCons, s_cCall, s_cFn, s_cIx, s_cAnd, s_cOr, s_cNot, s_cIf, s_cTr, s_cBT, s_cAndT, s_cOrT, s_cNotT, s_cCh, s_cChT, s_cSl, s_sFor, s_cWalk, s_cLc, s_lcOne, s_cTrue, s_sApp, s_gN, s_gT, s_gsNil, s_gsCons, s_cV0, s_cVs, s_finR, s_finN, s_boolD, s_truB, s_setAll0, s_setAll1, s_op1, s_op2, s_abs, s_addI, s_subI, eqI, neI, ltI, gtI, leI, geI, mkTup1, mkTup2, mkTup3, idx_t0, idx_t1, idx_t2, obS, omS, List.set_cons_zero, List.set_cons_succ, s_cNone, s_cPart, s_intD, s_cRng1, s_walkL, s_walkT, s_lenT, s_lenL, s_lenS, s_slT, s_slL, if_true, if_false, decide_true, decide_false, Bool.not_true, Bool.not_false, Bool.and_true, Bool.and_false, Bool.true_and, Bool.false_and, Bool.false_eq_true, decide_eq_true_eq, s_cEnum, s_sPut, s_revL, s_revT, s_listL, s_listT, s_tupleL, s_tupleT, s_isDicLst, s_isDicTup, s_isDicInt, wipeE_nil, wipeE_cons, e1, e2, i0, i1, i2, n1, n2, n3]
        | true =>
          obtain ⟨i, rfl⟩ := isNumB_int h3
          rw [h3] at n3
          have n4 := n4 i
          unfold b_is_flash
          simp only [s_sSeq, s_sNil, s_sRet, s_sRetT, s_sIf, s_sAsg, s_sPar, s_sSetM, s_cND, s_cC, s_cB, s_cU, s_cTup, s_cLst, s_cNil, s_cCons, s_cCall, s_cFn, s_cIx, s_cAnd, s_cOr, s_cNot, s_cIf, s_cTr, s_cBT, s_cAndT, s_cOrT, s_cNotT, s_cCh, s_cChT, s_cSl, s_sFor, s_cWalk, s_cLc, s_lcOne, s_cTrue, s_sApp, s_gN, s_gT, s_gsNil, s_gsCons, s_cV0, s_cVs, s_finR, s_finN, s_boolD, s_truB, s_setAll0, s_setAll1, s_op1, s_op2, s_abs, s_addI, s_subI, eqI, neI, ltI, gtI, leI, geI, mkTup1, mkTup2, mkTup3, idx_t0, idx_t1, idx_t2, obS, omS, List.set_cons_zero, List.set_cons_succ, s_cNone, s_cPart, s_intD, s_cRng1, s_walkL, s_walkT, s_lenT, s_lenL, s_lenS, s_slT, s_slL, if_true, if_false, decide_true, decide_false, Bool.not_true, Bool.not_false, Bool.and_true, Bool.and_false, Bool.true_and, Bool.false_and, Bool.false_eq_true, decide_eq_true_eq, s_cEnum, s_sPut, s_revL, s_revT, s_listL, s_listT, s_tupleL, s_tupleT, s_isDicLst, s_isDicTup, s_isDicInt, wipeE_nil, wipeE_cons, e1, e2, i0, i1, i2, i3, n1, n2, n3, n4]
end L
end
section
open PySem PySem.Spec PyProof.Rows L2 RE
namespace RE
def tlD (l : List Str) : D := .tup (l.map D.str)
def lkD (l : List Str) : D := .lst (l.map D.str)
theorem eqv_strS (a b : Str) : eqv (.str a) (.str b) = decide (a = b) := by
  simp [eqv, toP, PyData.eqv]
  first | done | (by_cases h : a = b <;> simp [h])
theorem memD_strs (s : Str) (l : List Str) : memD (.str s) (l.map D.str) = decide (s ∈ l) := by
  unfold memD
  rw [List.any_map]
  rw [Bool.eq_iff_iff, List.any_eq_true, decide_eq_true_eq]
  constructor
  · rintro ⟨x, hx, h⟩
    have h : eqv (.str x) (.str s) = true := h
    rw [eqv_strS, decide_eq_true_eq] at h
    rw [← h]; exact hx
  · intro h
    exact ⟨s, h, show eqv (.str s) (.str s) = true by rw [eqv_strS]; exact decide_eq_true rfl⟩
theorem pd_strs (l : List Str) : (l.map D.str).all (pd 64) = true := by
  rw [List.all_eq_true]
  intro x hx
  obtain ⟨s, _, rfl⟩ := List.mem_map.mp hx
  rfl
theorem inB_tl (s : Str) (l : List Str) : inB (.str s) (tlD l) = some (decide (s ∈ l)) := by
  have : inB (.str s) (tlD l) = if pd 64 (.str s) && (l.map D.str).all (pd 64) then some (memD (.str s) (l.map D.str)) else none := rfl
  rw [this, pd_strs, memD_strs]
  rfl
theorem inB_lk (s : Str) (l : List Str) : inB (.str s) (lkD l) = some (decide (s ∈ l)) := by
  have : inB (.str s) (lkD l) = if pd 64 (.str s) && (l.map D.str).all (pd 64) then some (memD (.str s) (l.map D.str)) else none := rfl
  rw [this, pd_strs, memD_strs]
  rfl
theorem notIn_tl (s : Str) (l : List Str) : notInD (.str s) (tlD l) = some (.bl (!decide (s ∈ l))) := by unfold notInD; rw [inB_tl]; rfl
theorem notIn_lk (s : Str) (l : List Str) : notInD (.str s) (lkD l) = some (.bl (!decide (s ∈ l))) := by unfold notInD; rw [inB_lk]; rfl
theorem in_lk (s : Str) (l : List Str) : inD (.str s) (lkD l) = some (.bl (decide (s ∈ l))) := by unfold inD; rw [inB_lk]; rfl
end RE
namespace RE
def cut2 : D → D
  | .tup ys => .tup (ys.take 2)
  | _ => .non
theorem flashesB_eq (xs : List D) : flashesB (.tup xs) = ((decide ((xs.length : Int) ≤ 24) && xs.all flashB) && risB (xs.map fun x => match x with
    | .tup ys => .tup (ys.take 2)
    | _ => .non)) := rfl
theorem flashesB_fl (fs : List Fl) : flashesB (.tup (fs.map flD)) = ((decide ((fs.length : Int) ≤ 24) && (fs.map flD).all flashB) && risB ((fs.map (·.1)).map ppD)) := by
  rw [flashesB_eq, List.length_map, List.map_map, List.map_map]
  rfl
theorem flashesB_of {x : D} (h : ∀ xs, x ≠ .tup xs) : flashesB x = false := by
  cases x <;> first | rfl | exact absurd rfl (h _)
end RE
namespace L
theorem are_flashes_ev (n m k : Nat) (x : D) (hx : Sm m k x) (hk : k ≤ 40000) : lvl (DT rows) (n + 3) "are_flashes" [x] = some (.bl (flashesB x)) := by
  rw [v_are_flashes]
  rcases ty_tup hx.pd with ⟨xs, rfl, hp⟩ | ⟨h1, h2⟩
  rotate_left
  · rw [flashesB_of h1]
    generalize lvl (DT rows) (n + 2) = F
    unfold b_are_flashes
    simp only [s_sSeq, s_sNil, s_sRet, s_sRetT, s_sIf, s_sAsg, s_sPar, s_sSetM, s_cND, s_cC, s_cB, s_cU, s_cTup, s_cLst, s_cNil, s_cCons, s_cCall, s_cFn, s_cIx, s_cAnd, s_cOr, s_cNot, s_cIf, s_cTr, s_cBT, s_cAndT, s_cOrT, s_cNotT, s_cCh, s_cChT, s_cSl, s_sFor, s_cWalk, s_cLc, s_lcOne, s_cTrue, s_sApp, s_gN, s_gT, s_gsNil, s_gsCons, s_cV0, s_cVs, s_finR, s_finN, s_boolD, s_truB, s_setAll0, s_setAll1, s_op1, s_op2, s_abs, s_addI, s_subI, eqI, neI, ltI, gtI, leI, geI, mkTup1, mkTup2, mkTup3, idx_t0, idx_t1, idx_t2, obS, omS, List.set_cons_zero, List.set_cons_succ, s_cNone, s_cPart, s_intD, s_cRng1, s_walkL, s_walkT, s_lenT, s_lenL, s_lenS, s_slT, s_slL, if_true, if_false, decide_true, decide_false, Bool.not_true, Bool.not_false, Bool.and_true, Bool.and_false, Bool.true_and, Bool.false_and, Bool.false_eq_true, decide_eq_true_eq, s_cEnum, s_sPut, s_revL, s_revT, s_listL, s_listT, s_tupleL, s_tupleT, s_isDicLst, s_isDicTup, s_isDicInt, wipeE_nil, wipeE_cons, h2]
  have e1 : isiD ["tuple"] (.tup xs) = some (.bl true) := rfl
  have hl := hx.lenL
  have ff := fun y hy => is_flash_ev n m k y (hx.sub y hy)
  have fr := fun (ps : List (Str × Str)) (hl : (ps.map ppD).length ≤ 100) => rises_ev (n + 1) (ds := ps.map ppD) hl (fun d hd e he => by
    obtain ⟨p, _, rfl⟩ := List.mem_map.mp hd
    obtain ⟨q, _, rfl⟩ := List.mem_map.mp he
    exact lt_pp p q)
  have fr : ∀ (ps : List (Str × Str)), (ps.map ppD).length ≤ 100 → lvl (DT rows) (n + 2) "rises" [.lst (ps.map ppD)] = some (.bl (risB (ps.map ppD))) := fr
  have ff : ∀ y ∈ xs, lvl (DT rows) (n + 2) "is_flash" [y] = some (.bl (flashB y)) := ff
  generalize lvl (DT rows) (n + 2) = F at *
  by_cases c1 : (24 : Int) < (xs.length : Int)
  · have : flashesB (.tup xs) = false := by
      rw [flashesB_eq, decide_eq_false (show ¬ (xs.length : Int) ≤ 24 by omega)]
      simp
    rw [this]
    unfold b_are_flashes
    simp only [s_sSeq, s_sNil, s_sRet, s_sRetT, s_sIf, s_sAsg, s_sPar, s_sSetM, s_cND, s_cC, s_cB, s_cU, s_cTup, s_cLst, s_cNil, s_cCons, s_cCall, s_cFn, s_cIx, s_cAnd, s_cOr, s_cNot, s_cIf, s_cTr, s_cBT, s_cAndT, s_cOrT, s_cNotT, s_cCh, s_cChT, s_cSl, s_sFor, s_cWalk, s_cLc, s_lcOne, s_cTrue, s_sApp, s_gN, s_gT, s_gsNil, s_gsCons, s_cV0, s_cVs, s_finR, s_finN, s_boolD, s_truB, s_setAll0, s_setAll1, s_op1, s_op2, s_abs, s_addI, s_subI, eqI, neI, ltI, gtI, leI, geI, mkTup1, mkTup2, mkTup3, idx_t0, idx_t1, idx_t2, obS, omS, List.set_cons_zero, List.set_cons_succ, s_cNone, s_cPart, s_intD, s_cRng1, s_walkL, s_walkT, s_lenT, s_lenL, s_lenS, s_slT, s_slL, if_true, if_false, decide_true, decide_false, Bool.not_true, Bool.not_false, Bool.and_true, Bool.and_false, Bool.true_and, Bool.false_and, Bool.false_eq_true, decide_eq_true_eq, s_cEnum, s_sPut, s_revL, s_revT, s_listL, s_listT, s_tupleL, s_tupleT, s_isDicLst, s_isDicTup, s_isDicInt, wipeE_nil, wipeE_cons, e1, c1]
  have L1 : lcAll (lcOne (gN 1) (cTrue) (cFn "is_flash" (cCons (cV 1) (cNil))) F [some (.tup xs), none]) xs = some (xs.map fun y => .bl (flashB y)) := by
    have := lc_map (one := lcOne (gN 1) (cTrue) (cFn "is_flash" (cCons (cV 1) (cNil))) F [some (.tup xs), none]) (f := fun y : D => y) (g := fun y => .bl (flashB y)) (l := xs) (fun y hy => by
      have := ff y hy
      simp only [s_sSeq, s_sNil, s_sRet, s_sRetT, s_sIf, s_sAsg, s_sPar, s_sSetM, s_cND, s_cC, s_cB, s_cU, s_cTup, s_cLst, s_cNil, s_cCons, s_cCall, s_cFn, s_cIx, s_cAnd, s_cOr, s_cNot, s_cIf, s_cTr, s_cBT, s_cAndT, s_cOrT, s_cNotT, s_cCh, s_cChT, s_cSl, s_sFor, s_cWalk, s_cLc, s_lcOne, s_cTrue, s_sApp, s_gN, s_gT, s_gsNil, s_gsCons, s_cV0, s_cVs, s_finR, s_finN, s_boolD, s_truB, s_setAll0, s_setAll1, s_op1, s_op2, s_abs, s_addI, s_subI, eqI, neI, ltI, gtI, leI, geI, mkTup1, mkTup2, mkTup3, idx_t0, idx_t1, idx_t2, obS, omS, List.set_cons_zero, List.set_cons_succ, s_cNone, s_cPart, s_intD, s_cRng1, s_walkL, s_walkT, s_lenT, s_lenL, s_lenS, s_slT, s_slL, if_true, if_false, decide_true, decide_false, Bool.not_true, Bool.not_false, Bool.and_true, Bool.and_false, Bool.true_and, Bool.false_and, Bool.false_eq_true, decide_eq_true_eq, s_cEnum, s_sPut, s_revL, s_revT, s_listL, s_listT, s_tupleL, s_tupleT, s_isDicLst, s_isDicTup, s_isDicInt, wipeE_nil, wipeE_cons, this])
    rwa [List.map_id'] at this
  have L2 := mkLst_ev (ds := xs.map fun y => .bl (flashB y)) (by rw [List.length_map]; omega)
  have L3 := allD_map flashB xs
  have E1 : cLc [1] (cWalk (cV 0)) (gN 1) (cTrue) (cFn "is_flash" (cCons (cV 1) (cNil))) F [some (.tup xs), none] = some (.lst (xs.map fun y => .bl (flashB y))) := by
    rw [s_cLc]
    simp only [s_cWalk, s_cV0, obS, s_walkT, wipeE_cons, wipeE_nil, List.set_cons_succ, List.set_cons_zero]
    rw [L1, obS, L2]
  cases hb : xs.all flashB with
  | false =>
    rw [hb] at L3
    have : flashesB (.tup xs) = false := by
      rw [flashesB_eq, hb]
      simp
    rw [this]
    generalize hE : (cLc [1] (cWalk (cV 0)) (gN 1) (cTrue) (cFn "is_flash" (cCons (cV 1) (cNil)))) = E at *
    unfold b_are_flashes
    rw [hE]
    simp only [s_sSeq, s_sNil, s_sRet, s_sRetT, s_sIf, s_sAsg, s_sPar, s_sSetM, s_cND, s_cC, s_cB, s_cU, s_cTup, s_cLst, s_cNil, s_cCons, s_cCall, s_cFn, s_cIx, s_cAnd, s_cOr, s_cNot, s_cIf, s_cTr, s_cBT, s_cAndT, s_cOrT, s_cNotT, s_cCh, s_cChT, s_cSl, s_sFor, s_cWalk, s_cLc, s_lcOne, s_cTrue, s_sApp, s_gN, s_gT, s_gsNil, s_gsCons, s_cV0, s_cVs, s_finR, s_finN, s_boolD, s_truB, s_setAll0, s_setAll1, s_op1, s_op2, s_abs, s_addI, s_subI, eqI, neI, ltI, gtI, leI, geI, mkTup1, mkTup2, mkTup3, idx_t0, idx_t1, idx_t2, obS, omS, List.set_cons_zero, List.set_cons_succ, s_cNone, s_cPart, s_intD, s_cRng1, s_walkL, s_walkT, s_lenT, s_lenL, s_lenS, s_slT, s_slL, if_true, if_false, decide_true, decide_false, Bool.not_true, Bool.not_false, Bool.and_true, Bool.and_false, Bool.true_and, Bool.false_and, Bool.false_eq_true, decide_eq_true_eq, s_cEnum, s_sPut, s_revL, s_revT, s_listL, s_listT, s_tupleL, s_tupleT, s_isDicLst, s_isDicTup, s_isDicInt, wipeE_nil, wipeE_cons, e1, c1, E1, L3]
  | true =>
    rw [hb] at L3
    obtain ⟨fs, rfl⟩ := all_fl hb
    rw [List.length_map] at c1
    have fl := flashesB_fl fs
    rw [hb, decide_eq_true (show (fs.length : Int) ≤ 24 by omega), Bool.true_and, Bool.true_and] at fl
    rw [fl]
    have fr := fr (fs.map (·.1)) (by rw [List.length_map, List.length_map]; omega)
    have M1 : lcAll (lcOne (gN 1) (cTrue) (cSl (cV 1) (cNone) (cPart (cC (.int 2)))) F [some (.tup (fs.map flD)), none]) (fs.map flD) = some ((fs.map (·.1)).map ppD) := by
      rw [List.map_map]
      refine lc_map fun f _ => ?_
      have sl : slcD none (some 2) (flD f) = some (ppD f.1) := rfl
      have i2 : RE.intD (.int 2) = some 2 := rfl
      generalize flD f = FD at *
      simp only [s_sSeq, s_sNil, s_sRet, s_sRetT, s_sIf, s_sAsg, s_sPar, s_sSetM, s_cND, s_cC, s_cB, s_cU, s_cTup, s_cLst, s_cNil, s_cCons, s_cCall, s_cFn, s_cIx, s_cAnd, s_cOr, s_cNot, s_cIf, s_cTr, s_cBT, s_cAndT, s_cOrT, s_cNotT, s_cCh, s_cChT, s_cSl, s_sFor, s_cWalk, s_cLc, s_lcOne, s_cTrue, s_sApp, s_gN, s_gT, s_gsNil, s_gsCons, s_cV0, s_cVs, s_finR, s_finN, s_boolD, s_truB, s_setAll0, s_setAll1, s_op1, s_op2, s_abs, s_addI, s_subI, eqI, neI, ltI, gtI, leI, geI, mkTup1, mkTup2, mkTup3, idx_t0, idx_t1, idx_t2, obS, omS, List.set_cons_zero, List.set_cons_succ, s_cNone, s_cPart, s_intD, s_cRng1, s_walkL, s_walkT, s_lenT, s_lenL, s_lenS, s_slT, s_slL, if_true, if_false, decide_true, decide_false, Bool.not_true, Bool.not_false, Bool.and_true, Bool.and_false, Bool.true_and, Bool.false_and, Bool.false_eq_true, decide_eq_true_eq, s_cEnum, s_sPut, s_revL, s_revT, s_listL, s_listT, s_tupleL, s_tupleT, s_isDicLst, s_isDicTup, s_isDicInt, wipeE_nil, wipeE_cons, s_cPart, i2, sl, Function.comp]
    have M2 := mkLst_ev (ds := (fs.map (·.1)).map ppD) (by rw [List.length_map, List.length_map]; omega)
    have E2 : cLc [1] (cWalk (cV 0)) (gN 1) (cTrue) (cSl (cV 1) (cNone) (cPart (cC (.int 2)))) F [some (.tup (fs.map flD)), none] = some (.lst ((fs.map (·.1)).map ppD)) := by
      rw [s_cLc]
      simp only [s_cWalk, s_cV0, obS, s_walkT, wipeE_cons, wipeE_nil, List.set_cons_succ, List.set_cons_zero]
      rw [M1, obS, M2]
    have c1' : ((24 : Int) < ((fs.map flD).length : Int)) = False := eq_false (by rw [List.length_map]; exact c1)
    generalize hE' : (cLc [1] (cWalk (cV 0)) (gN 1) (cTrue) (cSl (cV 1) (cNone) (cPart (cC (.int 2))))) = E' at *
    generalize hE : (cLc [1] (cWalk (cV 0)) (gN 1) (cTrue) (cFn "is_flash" (cCons (cV 1) (cNil)))) = E at *
    generalize (fs.map (·.1)).map ppD = PD at *
    unfold b_are_flashes
    rw [hE', hE]
    simp only [s_sSeq, s_sNil, s_sRet, s_sRetT, s_sIf, s_sAsg, s_sPar, s_sSetM, s_cND, s_cC, s_cB, s_cU, s_cTup, s_cLst, s_cNil, s_cCons, s_cCall, s_cFn, s_cIx, s_cAnd, s_cOr, s_cNot, s_cIf, s_cTr, s_cBT, s_cAndT, s_cOrT, s_cNotT, s_cCh, s_cChT, s_cSl, s_sFor, s_cWalk, s_cLc, s_lcOne, s_cTrue, s_sApp, s_gN, s_gT, s_gsNil, s_gsCons, s_cV0, s_cVs, s_finR, s_finN, s_boolD, s_truB, s_setAll0, s_setAll1, s_op1, s_op2, s_abs, s_addI, s_subI, eqI, neI, ltI, gtI, leI, geI, mkTup1, mkTup2, mkTup3, idx_t0, idx_t1, idx_t2, obS, omS, List.set_cons_zero, List.set_cons_succ, s_cNone, s_cPart, s_intD, s_cRng1, s_walkL, s_walkT, s_lenT, s_lenL, s_lenS, s_slT, s_slL, if_true, if_false, decide_true, decide_false, Bool.not_true, Bool.not_false, Bool.and_true, Bool.and_false, Bool.true_and, Bool.false_and, Bool.false_eq_true, decide_eq_true_eq, s_cEnum, s_sPut, s_revL, s_revT, s_listL, s_listT, s_tupleL, s_tupleT, s_isDicLst, s_isDicTup, s_isDicInt, wipeE_nil, wipeE_cons, e1, c1', E1, L3, E2, fr]
theorem law_row_ev (n m k : Nat) (x : D) (hx : Sm m k x) (x0 x2 : Option D) : (flashB x = true → lfC0 (lvl (DT rows) (n + 1)) [x0, some x, x2] = some (.nx [x0, some x, x2])) ∧ (flashB x = false → lfC0 (lvl (DT rows) (n + 1)) [x0, some x, x2] = some (.rt false (.bl false))) := by
  rcases ty_tup hx.pd with ⟨xs, rfl, hp⟩ | ⟨h1, h2⟩
  rotate_left
  · rw [flashB_of h1]
    refine ⟨fun q => (nomatch q), fun _ => ?_⟩
    generalize lvl (DT rows) (n + 1) = F
    unfold lfC0
    simp only [s_sSeq, s_sNil, s_sRet, s_sRetT, s_sIf, s_sAsg, s_sPar, s_sSetM, s_cND, s_cC, s_cB, s_cU, s_cTup, s_cLst, s_cNil, s_cCons, s_cCall, s_cFn, s_cIx, s_cAnd, s_cOr, s_cNot, s_cIf, s_cTr, s_cBT, s_cAndT, s_cOrT, s_cNotT, s_cCh, s_cChT, s_cSl, s_sFor, s_cWalk, s_cLc, s_lcOne, s_cTrue, s_sApp, s_gN, s_gT, s_gsNil, s_gsCons, s_cV0, s_cVs, s_finR, s_finN, s_boolD, s_truB, s_setAll0, s_setAll1, s_op1, s_op2, s_abs, s_addI, s_subI, eqI, neI, ltI, gtI, leI, geI, mkTup1, mkTup2, mkTup3, idx_t0, idx_t1, idx_t2, obS, omS, List.set_cons_zero, List.set_cons_succ, s_cNone, s_cPart, s_intD, s_cRng1, s_walkL, s_walkT, s_lenT, s_lenL, s_lenS, s_slT, s_slL, if_true, if_false, decide_true, decide_false, Bool.not_true, Bool.not_false, Bool.and_true, Bool.and_false, Bool.true_and, Bool.false_and, Bool.false_eq_true, decide_eq_true_eq, s_cEnum, s_sPut, s_revL, s_revT, s_listL, s_listT, s_tupleL, s_tupleT, s_isDicLst, s_isDicTup, s_isDicInt, wipeE_nil, wipeE_cons, h2]
  have e1 : isiD ["tuple"] (.tup xs) = some (.bl true) := rfl
  by_cases hl : xs.length = 4
  rotate_left
  · have e2 : ((xs.length : Int) = 4) = False := eq_false (by omega)
    rw [flashB_len hl]
    refine ⟨fun q => (nomatch q), fun _ => ?_⟩
    generalize lvl (DT rows) (n + 1) = F
    unfold lfC0
    simp only [s_sSeq, s_sNil, s_sRet, s_sRetT, s_sIf, s_sAsg, s_sPar, s_sSetM, s_cND, s_cC, s_cB, s_cU, s_cTup, s_cLst, s_cNil, s_cCons, s_cCall, s_cFn, s_cIx, s_cAnd, s_cOr, s_cNot, s_cIf, s_cTr, s_cBT, s_cAndT, s_cOrT, s_cNotT, s_cCh, s_cChT, s_cSl, s_sFor, s_cWalk, s_cLc, s_lcOne, s_cTrue, s_sApp, s_gN, s_gT, s_gsNil, s_gsCons, s_cV0, s_cVs, s_finR, s_finN, s_boolD, s_truB, s_setAll0, s_setAll1, s_op1, s_op2, s_abs, s_addI, s_subI, eqI, neI, ltI, gtI, leI, geI, mkTup1, mkTup2, mkTup3, idx_t0, idx_t1, idx_t2, obS, omS, List.set_cons_zero, List.set_cons_succ, s_cNone, s_cPart, s_intD, s_cRng1, s_walkL, s_walkT, s_lenT, s_lenL, s_lenS, s_slT, s_slL, if_true, if_false, decide_true, decide_false, Bool.not_true, Bool.not_false, Bool.and_true, Bool.and_false, Bool.true_and, Bool.false_and, Bool.false_eq_true, decide_eq_true_eq, s_cEnum, s_sPut, s_revL, s_revT, s_listL, s_listT, s_tupleL, s_tupleT, s_isDicLst, s_isDicTup, s_isDicInt, wipeE_nil, wipeE_cons, e1, e2]
  match xs, hl with
  | [a, b, c, d], _ =>
    have sm := hx.sub
    have n1 := law_is_name_ev n _ _ a (sm a (by simp))
    have n2 := law_is_name_ev n _ _ b (sm b (by simp))
    have n3 := law_number_ev n _ c (hp c (by simp)) 0 1000000
    have n4 := law_number_ev n _ d (hp d (by simp)) 0 1000000
    have pw : powD (.int 10) (.int 6) = some (.int 1000000) := rfl
    have e2 : lenD (.tup [a, b, c, d]) = some (.int 4) := rfl
    have i0 : idxD (.tup [a, b, c, d]) (.int 0) = some a := rfl
    have i1 : idxD (.tup [a, b, c, d]) (.int 1) = some b := rfl
    have i2 : idxD (.tup [a, b, c, d]) (.int 2) = some c := rfl
    have i3 : idxD (.tup [a, b, c, d]) (.int 3) = some d := rfl
    rw [flashB_4]
    generalize lvl (DT rows) (n + 1) = F at *
    generalize D.tup [a, b, c, d] = T at *
    cases h1 : nameB a with
    | false =>
      rw [h1] at n1
      refine ⟨fun q => (nomatch q), fun _ => ?_⟩
      unfold lfC0
      simp only [s_sSeq, s_sNil, s_sRet, s_sRetT, s_sIf, s_sAsg, s_sPar, s_sSetM, s_cND, s_cC, s_cB, s_cU, s_cTup, s_cLst, s_cNil, s_cCons, s_cCall, s_cFn, s_cIx, s_cAnd, s_cOr, s_cNot, s_cIf, s_cTr, s_cBT, s_cAndT, s_cOrT, s_cNotT, s_cCh, s_cChT, s_cSl, s_sFor, s_cWalk, s_cLc, s_lcOne, s_cTrue, s_sApp, s_gN, s_gT, s_gsNil, s_gsCons, s_cV0, s_cVs, s_finR, s_finN, s_boolD, s_truB, s_setAll0, s_setAll1, s_op1, s_op2, s_abs, s_addI, s_subI, eqI, neI, ltI, gtI, leI, geI, mkTup1, mkTup2, mkTup3, idx_t0, idx_t1, idx_t2, obS, omS, List.set_cons_zero, List.set_cons_succ, s_cNone, s_cPart, s_intD, s_cRng1, s_walkL, s_walkT, s_lenT, s_lenL, s_lenS, s_slT, s_slL, if_true, if_false, decide_true, decide_false, Bool.not_true, Bool.not_false, Bool.and_true, Bool.and_false, Bool.true_and, Bool.false_and, Bool.false_eq_true, decide_eq_true_eq, s_cEnum, s_sPut, s_revL, s_revT, s_listL, s_listT, s_tupleL, s_tupleT, s_isDicLst, s_isDicTup, s_isDicInt, wipeE_nil, wipeE_cons, e1, e2, i0, n1]
    | true =>
      rw [h1] at n1
      cases h2 : nameB b with
      | false =>
        rw [h2] at n2
        refine ⟨fun q => (nomatch q), fun _ => ?_⟩
        unfold lfC0
        simp only [s_sSeq, s_sNil, s_sRet, s_sRetT, s_sIf, s_sAsg, s_sPar, s_sSetM, s_cND, s_cC, s_cB, s_cU, s_cTup, s_cLst, s_cNil, s_cCons, s_cCall, s_cFn, s_cIx, s_cAnd, s_cOr, s_cNot, s_cIf, s_cTr, s_cBT, s_cAndT, s_cOrT, s_cNotT, s_cCh, s_cChT, s_cSl, s_sFor, s_cWalk, s_cLc, s_lcOne, s_cTrue, s_sApp, s_gN, s_gT, s_gsNil, s_gsCons, s_cV0, s_cVs, s_finR, s_finN, s_boolD, s_truB, s_setAll0, s_setAll1, s_op1, s_op2, s_abs, s_addI, s_subI, eqI, neI, ltI, gtI, leI, geI, mkTup1, mkTup2, mkTup3, idx_t0, idx_t1, idx_t2, obS, omS, List.set_cons_zero, List.set_cons_succ, s_cNone, s_cPart, s_intD, s_cRng1, s_walkL, s_walkT, s_lenT, s_lenL, s_lenS, s_slT, s_slL, if_true, if_false, decide_true, decide_false, Bool.not_true, Bool.not_false, Bool.and_true, Bool.and_false, Bool.true_and, Bool.false_and, Bool.false_eq_true, decide_eq_true_eq, s_cEnum, s_sPut, s_revL, s_revT, s_listL, s_listT, s_tupleL, s_tupleT, s_isDicLst, s_isDicTup, s_isDicInt, wipeE_nil, wipeE_cons, e1, e2, i0, i1, n1, n2]
      | true =>
        rw [h2] at n2
        have r0 : lfC0 F [x0, some T, x2] = lfC1 F [x0, some T, x2] := by
          unfold lfC0
          simp only [s_sSeq, s_sNil, s_sRet, s_sRetT, s_sIf, s_sAsg, s_sPar, s_sSetM, s_cND, s_cC, s_cB, s_cU, s_cTup, s_cLst, s_cNil, s_cCons, s_cCall, s_cFn, s_cIx, s_cAnd, s_cOr, s_cNot, s_cIf, s_cTr, s_cBT, s_cAndT, s_cOrT, s_cNotT, s_cCh, s_cChT, s_cSl, s_sFor, s_cWalk, s_cLc, s_lcOne, s_cTrue, s_sApp, s_gN, s_gT, s_gsNil, s_gsCons, s_cV0, s_cVs, s_finR, s_finN, s_boolD, s_truB, s_setAll0, s_setAll1, s_op1, s_op2, s_abs, s_addI, s_subI, eqI, neI, ltI, gtI, leI, geI, mkTup1, mkTup2, mkTup3, idx_t0, idx_t1, idx_t2, obS, omS, List.set_cons_zero, List.set_cons_succ, s_cNone, s_cPart, s_intD, s_cRng1, s_walkL, s_walkT, s_lenT, s_lenL, s_lenS, s_slT, s_slL, if_true, if_false, decide_true, decide_false, Bool.not_true, Bool.not_false, Bool.and_true, Bool.and_false, Bool.true_and, Bool.false_and, Bool.false_eq_true, decide_eq_true_eq, s_cEnum, s_sPut, s_revL, s_revT, s_listL, s_listT, s_tupleL, s_tupleT, s_isDicLst, s_isDicTup, s_isDicInt, wipeE_nil, wipeE_cons, e1, e2, i0, i1, n1, n2]
        rw [r0]
        cases h3 : isNumB 0 1000000 c with
        | false =>
          rw [h3] at n3
          refine ⟨fun q => (nomatch q), fun _ => ?_⟩
          unfold lfC1
          simp only [s_sSeq, s_sNil, s_sRet, s_sRetT, s_sIf, s_sAsg, s_sPar, s_sSetM, s_cND, s_cC, s_cB, s_cU, s_cTup, s_cLst, s_cNil, s_cCons, s_cCall, s_cFn, s_cIx, s_cAnd, s_cOr, s_cNot, s_cIf, s_cTr, s_cBT, s_cAndT, s_cOrT, s_cNotT, s_cCh, s_cChT, s_cSl, s_sFor, s_cWalk, s_cLc, s_lcOne, s_cTrue, s_sApp, s_gN, s_gT, s_gsNil, s_gsCons, s_cV0, s_cVs, s_finR, s_finN, s_boolD, s_truB, s_setAll0, s_setAll1, s_op1, s_op2, s_abs, s_addI, s_subI, eqI, neI, ltI, gtI, leI, geI, mkTup1, mkTup2, mkTup3, idx_t0, idx_t1, idx_t2, obS, omS, List.set_cons_zero, List.set_cons_succ, s_cNone, s_cPart, s_intD, s_cRng1, s_walkL, s_walkT, s_lenT, s_lenL, s_lenS, s_slT, s_slL, if_true, if_false, decide_true, decide_false, Bool.not_true, Bool.not_false, Bool.and_true, Bool.and_false, Bool.true_and, Bool.false_and, Bool.false_eq_true, decide_eq_true_eq, s_cEnum, s_sPut, s_revL, s_revT, s_listL, s_listT, s_tupleL, s_tupleT, s_isDicLst, s_isDicTup, s_isDicInt, wipeE_nil, wipeE_cons, i2, pw, n3]
        | true =>
          obtain ⟨i, rfl⟩ := isNumB_int h3
          have hi : 0 ≤ i ∧ i ≤ 1000000 := by
            have h3 : (decide (0 ≤ i) && decide (i ≤ 1000000)) = true := h3
            rw [Bool.and_eq_true, decide_eq_true_eq, decide_eq_true_eq] at h3
            exact h3
          rw [h3] at n3
          cases h4 : isNumB 0 1000000 d with
          | false =>
            rw [h4] at n4
            have : isNumB i 1000000 d = false := by
              cases d with
              | int j =>
                have h4 : (decide (0 ≤ j) && decide (j ≤ 1000000)) = false := h4
                show (decide (i ≤ j) && decide (j ≤ 1000000)) = false
                rw [← Bool.not_eq_true, Bool.and_eq_true, decide_eq_true_eq, decide_eq_true_eq] at *
                omega
              | _ => rfl
            show ((true && true && (true && isNumB i 1000000 d)) = true → _) ∧ ((true && true && (true && isNumB i 1000000 d)) = false → _)
            rw [this]
            refine ⟨fun q => (nomatch q), fun _ => ?_⟩
            unfold lfC1
            simp only [s_sSeq, s_sNil, s_sRet, s_sRetT, s_sIf, s_sAsg, s_sPar, s_sSetM, s_cND, s_cC, s_cB, s_cU, s_cTup, s_cLst, s_cNil, s_cCons, s_cCall, s_cFn, s_cIx, s_cAnd, s_cOr, s_cNot, s_cIf, s_cTr, s_cBT, s_cAndT, s_cOrT, s_cNotT, s_cCh, s_cChT, s_cSl, s_sFor, s_cWalk, s_cLc, s_lcOne, s_cTrue, s_sApp, s_gN, s_gT, s_gsNil, s_gsCons, s_cV0, s_cVs, s_finR, s_finN, s_boolD, s_truB, s_setAll0, s_setAll1, s_op1, s_op2, s_abs, s_addI, s_subI, eqI, neI, ltI, gtI, leI, geI, mkTup1, mkTup2, mkTup3, idx_t0, idx_t1, idx_t2, obS, omS, List.set_cons_zero, List.set_cons_succ, s_cNone, s_cPart, s_intD, s_cRng1, s_walkL, s_walkT, s_lenT, s_lenL, s_lenS, s_slT, s_slL, if_true, if_false, decide_true, decide_false, Bool.not_true, Bool.not_false, Bool.and_true, Bool.and_false, Bool.true_and, Bool.false_and, Bool.false_eq_true, decide_eq_true_eq, s_cEnum, s_sPut, s_revL, s_revT, s_listL, s_listT, s_tupleL, s_tupleT, s_isDicLst, s_isDicTup, s_isDicInt, wipeE_nil, wipeE_cons, i2, i3, pw, n3, n4]
          | true =>
            obtain ⟨j, rfl⟩ := isNumB_int h4
            have hj : 0 ≤ j ∧ j ≤ 1000000 := by
              have h4 : (decide (0 ≤ j) && decide (j ≤ 1000000)) = true := h4
              rw [Bool.and_eq_true, decide_eq_true_eq, decide_eq_true_eq] at h4
              exact h4
            rw [h4] at n4
            have e : isNumB i 1000000 (.int j) = !decide (j < i) := by
              show (decide (i ≤ j) && decide (j ≤ 1000000)) = _
              rw [decide_eq_true hj.2, Bool.and_true, ← decide_not]
              exact decide_eq_decide.mpr (by omega)
            show ((true && true && (true && isNumB i 1000000 (.int j))) = true → _) ∧ ((true && true && (true && isNumB i 1000000 (.int j))) = false → _)
            rw [e]
            have gt : gtD (.int i) (.int j) = some (.bl (decide (j < i))) := gtI _ _
            cases hc : decide (j < i) with
            | true =>
              rw [hc] at gt
              refine ⟨fun q => (nomatch q), fun _ => ?_⟩
              unfold lfC1
              simp only [s_sSeq, s_sNil, s_sRet, s_sRetT, s_sIf, s_sAsg, s_sPar, s_sSetM, s_cND, s_cC, s_cB, s_cU, s_cTup, s_cLst, s_cNil, s_cCons, s_cCall, s_cFn, s_cIx, s_cAnd, s_cOr, s_cNot, s_cIf, s_cTr, s_cBT, s_cAndT, s_cOrT, s_cNotT, s_cCh, s_cChT, s_cSl, s_sFor, s_cWalk, s_cLc, s_lcOne, s_cTrue, s_sApp, s_gN, s_gT, s_gsNil, s_gsCons, s_cV0, s_cVs, s_finR, s_finN, s_boolD, s_truB, s_setAll0, s_setAll1, s_op1, s_op2, s_abs, s_addI, s_subI, eqI, neI, ltI, gtI, leI, geI, mkTup1, mkTup2, mkTup3, idx_t0, idx_t1, idx_t2, obS, omS, List.set_cons_zero, List.set_cons_succ, s_cNone, s_cPart, s_intD, s_cRng1, s_walkL, s_walkT, s_lenT, s_lenL, s_lenS, s_slT, s_slL, if_true, if_false, decide_true, decide_false, Bool.not_true, Bool.not_false, Bool.and_true, Bool.and_false, Bool.true_and, Bool.false_and, Bool.false_eq_true, decide_eq_true_eq, s_cEnum, s_sPut, s_revL, s_revT, s_listL, s_listT, s_tupleL, s_tupleT, s_isDicLst, s_isDicTup, s_isDicInt, wipeE_nil, wipeE_cons, i2, i3, pw, n3, n4, gt]
            | false =>
              rw [hc] at gt
              refine ⟨fun _ => ?_, fun q => (nomatch q)⟩
              unfold lfC1
              simp only [s_sSeq, s_sNil, s_sRet, s_sRetT, s_sIf, s_sAsg, s_sPar, s_sSetM, s_cND, s_cC, s_cB, s_cU, s_cTup, s_cLst, s_cNil, s_cCons, s_cCall, s_cFn, s_cIx, s_cAnd, s_cOr, s_cNot, s_cIf, s_cTr, s_cBT, s_cAndT, s_cOrT, s_cNotT, s_cCh, s_cChT, s_cSl, s_sFor, s_cWalk, s_cLc, s_lcOne, s_cTrue, s_sApp, s_gN, s_gT, s_gsNil, s_gsCons, s_cV0, s_cVs, s_finR, s_finN, s_boolD, s_truB, s_setAll0, s_setAll1, s_op1, s_op2, s_abs, s_addI, s_subI, eqI, neI, ltI, gtI, leI, geI, mkTup1, mkTup2, mkTup3, idx_t0, idx_t1, idx_t2, obS, omS, List.set_cons_zero, List.set_cons_succ, s_cNone, s_cPart, s_intD, s_cRng1, s_walkL, s_walkT, s_lenT, s_lenL, s_lenS, s_slT, s_slL, if_true, if_false, decide_true, decide_false, Bool.not_true, Bool.not_false, Bool.and_true, Bool.and_false, Bool.true_and, Bool.false_and, Bool.false_eq_true, decide_eq_true_eq, s_cEnum, s_sPut, s_revL, s_revT, s_listL, s_listT, s_tupleL, s_tupleT, s_isDicLst, s_isDicTup, s_isDicInt, wipeE_nil, wipeE_cons, i2, i3, pw, n3, n4, gt]
theorem law_are_flashes_ev (n m k : Nat) (x : D) (hx : Sm m k x) (hk : k ≤ 40000) : lvl (DT rows) (n + 2) "_law_are_flashes" [x] = some (.bl (flashesB x)) := by
  rw [v__law_are_flashes, lf_eq]
  rcases ty_tup hx.pd with ⟨xs, rfl, hp⟩ | ⟨h1, h2⟩
  rotate_left
  · rw [flashesB_of h1]
    generalize lvl (DT rows) (n + 1) = F
    unfold lf0
    simp only [s_sSeq, s_sNil, s_sRet, s_sRetT, s_sIf, s_sAsg, s_sPar, s_sSetM, s_cND, s_cC, s_cB, s_cU, s_cTup, s_cLst, s_cNil, s_cCons, s_cCall, s_cFn, s_cIx, s_cAnd, s_cOr, s_cNot, s_cIf, s_cTr, s_cBT, s_cAndT, s_cOrT, s_cNotT, s_cCh, s_cChT, s_cSl, s_sFor, s_cWalk, s_cLc, s_lcOne, s_cTrue, s_sApp, s_gN, s_gT, s_gsNil, s_gsCons, s_cV0, s_cVs, s_finR, s_finN, s_boolD, s_truB, s_setAll0, s_setAll1, s_op1, s_op2, s_abs, s_addI, s_subI, eqI, neI, ltI, gtI, leI, geI, mkTup1, mkTup2, mkTup3, idx_t0, idx_t1, idx_t2, obS, omS, List.set_cons_zero, List.set_cons_succ, s_cNone, s_cPart, s_intD, s_cRng1, s_walkL, s_walkT, s_lenT, s_lenL, s_lenS, s_slT, s_slL, if_true, if_false, decide_true, decide_false, Bool.not_true, Bool.not_false, Bool.and_true, Bool.and_false, Bool.true_and, Bool.false_and, Bool.false_eq_true, decide_eq_true_eq, s_cEnum, s_sPut, s_revL, s_revT, s_listL, s_listT, s_tupleL, s_tupleT, s_isDicLst, s_isDicTup, s_isDicInt, wipeE_nil, wipeE_cons, h2]
  have e1 : isiD ["tuple"] (.tup xs) = some (.bl true) := rfl
  have hl := hx.lenL
  have lp := for_all (asg := gN 1) (body := lfC0 (lvl (DT rows) (n + 1))) (fun ρ => ∃ x1, ρ = [some (.tup xs), x1, none]) (fun d : D => d) flashB xs [some (.tup xs), none, none] ⟨none, rfl⟩ (fun y hy ρ hρ => by
    obtain ⟨x1, rfl⟩ := hρ
    obtain ⟨r1, r2⟩ := law_row_ev n m k y (hx.sub y hy) (some (.tup xs)) none
    rw [s_gN, obS]
    simp only [List.set_cons_succ, List.set_cons_zero]
    exact ⟨fun h => ⟨_, r1 h, _, rfl⟩, r2⟩)
  rw [List.map_id'] at lp
  generalize lvl (DT rows) (n + 1) = F at *
  by_cases c1 : (24 : Int) < (xs.length : Int)
  · have : flashesB (.tup xs) = false := by
      rw [flashesB_eq, decide_eq_false (show ¬ (xs.length : Int) ≤ 24 by omega)]
      simp
    rw [this]
    unfold lf0
    simp only [s_sSeq, s_sNil, s_sRet, s_sRetT, s_sIf, s_sAsg, s_sPar, s_sSetM, s_cND, s_cC, s_cB, s_cU, s_cTup, s_cLst, s_cNil, s_cCons, s_cCall, s_cFn, s_cIx, s_cAnd, s_cOr, s_cNot, s_cIf, s_cTr, s_cBT, s_cAndT, s_cOrT, s_cNotT, s_cCh, s_cChT, s_cSl, s_sFor, s_cWalk, s_cLc, s_lcOne, s_cTrue, s_sApp, s_gN, s_gT, s_gsNil, s_gsCons, s_cV0, s_cVs, s_finR, s_finN, s_boolD, s_truB, s_setAll0, s_setAll1, s_op1, s_op2, s_abs, s_addI, s_subI, eqI, neI, ltI, gtI, leI, geI, mkTup1, mkTup2, mkTup3, idx_t0, idx_t1, idx_t2, obS, omS, List.set_cons_zero, List.set_cons_succ, s_cNone, s_cPart, s_intD, s_cRng1, s_walkL, s_walkT, s_lenT, s_lenL, s_lenS, s_slT, s_slL, if_true, if_false, decide_true, decide_false, Bool.not_true, Bool.not_false, Bool.and_true, Bool.and_false, Bool.true_and, Bool.false_and, Bool.false_eq_true, decide_eq_true_eq, s_cEnum, s_sPut, s_revL, s_revT, s_listL, s_listT, s_tupleL, s_tupleT, s_isDicLst, s_isDicTup, s_isDicInt, wipeE_nil, wipeE_cons, e1, c1]
  have r0 : lf0 F [some (.tup xs), none, none] = lf1 F [some (.tup xs), none, none] := by
    unfold lf0
    simp only [s_sSeq, s_sNil, s_sRet, s_sRetT, s_sIf, s_sAsg, s_sPar, s_sSetM, s_cND, s_cC, s_cB, s_cU, s_cTup, s_cLst, s_cNil, s_cCons, s_cCall, s_cFn, s_cIx, s_cAnd, s_cOr, s_cNot, s_cIf, s_cTr, s_cBT, s_cAndT, s_cOrT, s_cNotT, s_cCh, s_cChT, s_cSl, s_sFor, s_cWalk, s_cLc, s_lcOne, s_cTrue, s_sApp, s_gN, s_gT, s_gsNil, s_gsCons, s_cV0, s_cVs, s_finR, s_finN, s_boolD, s_truB, s_setAll0, s_setAll1, s_op1, s_op2, s_abs, s_addI, s_subI, eqI, neI, ltI, gtI, leI, geI, mkTup1, mkTup2, mkTup3, idx_t0, idx_t1, idx_t2, obS, omS, List.set_cons_zero, List.set_cons_succ, s_cNone, s_cPart, s_intD, s_cRng1, s_walkL, s_walkT, s_lenT, s_lenL, s_lenS, s_slT, s_slL, if_true, if_false, decide_true, decide_false, Bool.not_true, Bool.not_false, Bool.and_true, Bool.and_false, Bool.true_and, Bool.false_and, Bool.false_eq_true, decide_eq_true_eq, s_cEnum, s_sPut, s_revL, s_revT, s_listL, s_listT, s_tupleL, s_tupleT, s_isDicLst, s_isDicTup, s_isDicInt, wipeE_nil, wipeE_cons, e1, c1]
  have r1 : ∀ r, forD (gN 1) (lfC0 F) xs [some (.tup xs), none, none] = some r → lf1 F [some (.tup xs), none, none] = match r with
      | .nx ρ => lf2 F ρ
      | r => some r := fun r h => by
    unfold lf1
    rw [s_sSeq, s_sFor]
    simp only [s_cWalk, s_cV0, obS, s_walkT]
    rw [h, obS]
    cases r <;> rfl
  rw [r0]
  cases hb : xs.all flashB with
  | false =>
    rw [r1 _ (lp.2 hb)]
    have : flashesB (.tup xs) = false := by
      rw [flashesB_eq, hb]
      simp
    rw [this]
    rfl
  | true =>
    obtain ⟨ρ', g1, x1, rfl⟩ := lp.1 hb
    rw [r1 _ g1]
    simp only
    obtain ⟨fs, rfl⟩ := all_fl hb
    rw [List.length_map] at c1
    have fl := flashesB_fl fs
    rw [hb, decide_eq_true (show (fs.length : Int) ≤ 24 by omega), Bool.true_and, Bool.true_and] at fl
    rw [fl]
    have M1 : lcAll (lcOne (gN 1) (cTrue) (cSl (cV 1) (cNone) (cPart (cC (.int 2)))) F [some (.tup (fs.map flD)), none, none]) (fs.map flD) = some ((fs.map (·.1)).map ppD) := by
      rw [List.map_map]
      refine lc_map fun f _ => ?_
      have sl : slcD none (some 2) (flD f) = some (ppD f.1) := rfl
      have i2 : RE.intD (.int 2) = some 2 := rfl
      generalize flD f = FD at *
      simp only [s_sSeq, s_sNil, s_sRet, s_sRetT, s_sIf, s_sAsg, s_sPar, s_sSetM, s_cND, s_cC, s_cB, s_cU, s_cTup, s_cLst, s_cNil, s_cCons, s_cCall, s_cFn, s_cIx, s_cAnd, s_cOr, s_cNot, s_cIf, s_cTr, s_cBT, s_cAndT, s_cOrT, s_cNotT, s_cCh, s_cChT, s_cSl, s_sFor, s_cWalk, s_cLc, s_lcOne, s_cTrue, s_sApp, s_gN, s_gT, s_gsNil, s_gsCons, s_cV0, s_cVs, s_finR, s_finN, s_boolD, s_truB, s_setAll0, s_setAll1, s_op1, s_op2, s_abs, s_addI, s_subI, eqI, neI, ltI, gtI, leI, geI, mkTup1, mkTup2, mkTup3, idx_t0, idx_t1, idx_t2, obS, omS, List.set_cons_zero, List.set_cons_succ, s_cNone, s_cPart, s_intD, s_cRng1, s_walkL, s_walkT, s_lenT, s_lenL, s_lenS, s_slT, s_slL, if_true, if_false, decide_true, decide_false, Bool.not_true, Bool.not_false, Bool.and_true, Bool.and_false, Bool.true_and, Bool.false_and, Bool.false_eq_true, decide_eq_true_eq, s_cEnum, s_sPut, s_revL, s_revT, s_listL, s_listT, s_tupleL, s_tupleT, s_isDicLst, s_isDicTup, s_isDicInt, wipeE_nil, wipeE_cons, s_cPart, i2, sl, Function.comp]
    have M2 := mkLst_ev (ds := (fs.map (·.1)).map ppD) (by rw [List.length_map, List.length_map]; omega)
    have E2 : cLc [1] (cWalk (cV 0)) (gN 1) (cTrue) (cSl (cV 1) (cNone) (cPart (cC (.int 2)))) F [some (.tup (fs.map flD)), x1, none] = some (.lst ((fs.map (·.1)).map ppD)) := by
      rw [s_cLc]
      simp only [s_cWalk, s_cV0, obS, s_walkT, wipeE_cons, wipeE_nil, List.set_cons_succ, List.set_cons_zero]
      rw [M1, obS, M2]
    have so := set_pp (l := fs.map (·.1)) (by rw [List.length_map]; omega)
    have es := eq_set_pp (fs.map (·.1))
    generalize hE' : (cLc [1] (cWalk (cV 0)) (gN 1) (cTrue) (cSl (cV 1) (cNone) (cPart (cC (.int 2))))) = E' at *
    generalize risB ((fs.map (·.1)).map ppD) = b at *
    generalize D.lst ((fs.map (·.1)).map ppD) = PD at *
    generalize D.lst ((ordP (nubL (fs.map (·.1)))).map ppD) = QD at *
    unfold lf2
    rw [hE']
    simp only [s_sSeq, s_sNil, s_sRet, s_sRetT, s_sIf, s_sAsg, s_sPar, s_sSetM, s_cND, s_cC, s_cB, s_cU, s_cTup, s_cLst, s_cNil, s_cCons, s_cCall, s_cFn, s_cIx, s_cAnd, s_cOr, s_cNot, s_cIf, s_cTr, s_cBT, s_cAndT, s_cOrT, s_cNotT, s_cCh, s_cChT, s_cSl, s_sFor, s_cWalk, s_cLc, s_lcOne, s_cTrue, s_sApp, s_gN, s_gT, s_gsNil, s_gsCons, s_cV0, s_cVs, s_finR, s_finN, s_boolD, s_truB, s_setAll0, s_setAll1, s_op1, s_op2, s_abs, s_addI, s_subI, eqI, neI, ltI, gtI, leI, geI, mkTup1, mkTup2, mkTup3, idx_t0, idx_t1, idx_t2, obS, omS, List.set_cons_zero, List.set_cons_succ, s_cNone, s_cPart, s_intD, s_cRng1, s_walkL, s_walkT, s_lenT, s_lenL, s_lenS, s_slT, s_slL, if_true, if_false, decide_true, decide_false, Bool.not_true, Bool.not_false, Bool.and_true, Bool.and_false, Bool.true_and, Bool.false_and, Bool.false_eq_true, decide_eq_true_eq, s_cEnum, s_sPut, s_revL, s_revT, s_listL, s_listT, s_tupleL, s_tupleT, s_isDicLst, s_isDicTup, s_isDicInt, wipeE_nil, wipeE_cons, E2]
    unfold lf3
    simp only [s_sSeq, s_sNil, s_sRet, s_sRetT, s_sIf, s_sAsg, s_sPar, s_sSetM, s_cND, s_cC, s_cB, s_cU, s_cTup, s_cLst, s_cNil, s_cCons, s_cCall, s_cFn, s_cIx, s_cAnd, s_cOr, s_cNot, s_cIf, s_cTr, s_cBT, s_cAndT, s_cOrT, s_cNotT, s_cCh, s_cChT, s_cSl, s_sFor, s_cWalk, s_cLc, s_lcOne, s_cTrue, s_sApp, s_gN, s_gT, s_gsNil, s_gsCons, s_cV0, s_cVs, s_finR, s_finN, s_boolD, s_truB, s_setAll0, s_setAll1, s_op1, s_op2, s_abs, s_addI, s_subI, eqI, neI, ltI, gtI, leI, geI, mkTup1, mkTup2, mkTup3, idx_t0, idx_t1, idx_t2, obS, omS, List.set_cons_zero, List.set_cons_succ, s_cNone, s_cPart, s_intD, s_cRng1, s_walkL, s_walkT, s_lenT, s_lenL, s_lenS, s_slT, s_slL, if_true, if_false, decide_true, decide_false, Bool.not_true, Bool.not_false, Bool.and_true, Bool.and_false, Bool.true_and, Bool.false_and, Bool.false_eq_true, decide_eq_true_eq, s_cEnum, s_sPut, s_revL, s_revT, s_listL, s_listT, s_tupleL, s_tupleT, s_isDicLst, s_isDicTup, s_isDicInt, wipeE_nil, wipeE_cons, so, es]
end L
end
section
open PySem PySem.Spec PyProof.Rows L2 RE
namespace RE
theorem fdN (a b : Nat) (hb : b ≠ 0) (hs : b < 2 ^ 20) : fdivD (natD a) (.int (b : Int)) = some (natD (a / b)) := by
  have : fdivD (natD a) (.int (b : Int)) = some (.int ((a : Int).fdiv (b : Int))) := fdiv_ev (by omega) (wid_of (k := 20) (by omega) (by decide))
  rw [this]
  exact congrArg (fun z => some (D.int z)) (by rw [Int.fdiv_eq_ediv_of_nonneg _ (by omega)]; omega)
theorem ds_idx {ds : List Nat} {i : Nat} (h : i < ds.length) : idxD (.lst (ds.map natD)) (natD i) = some (natD (ds.getD i 0)) := by
  have : idxD (.lst (ds.map natD)) (.int (i : Int)) = some (natD ds[i]) := idx_nat h
  rw [List.getD_eq_getElem?_getD, List.getElem?_eq_getElem h]
  exact this
def sixL : List Str := ["ann", "bo", "cy", "di", "eve", "fay"]
def ahD (A : List (Str × Int)) : D := asD D.int A
structure FlOk (fs : List Fl) : Prop where
  len : fs.length ≤ 24
  sh : ∀ f ∈ fs, f.1.1.length ≤ 100 ∧ f.1.2.length ≤ 100
theorem put_key {α : Type} (f : α → D) {L : List (Str × α)} (n : Str) (hl : L.length ≤ 100000) (a : α) : ∃ L', L'.length ≤ L.length + 1 ∧ (∀ x, x ∈ L'.map (·.1) ↔ x ∈ L.map (·.1) ∨ x = n) ∧ putD (asD f L) (.str n) (f a) = some (asD f L') := by
  cases h : getA L n with
  | none => exact ⟨L ++ [(n, a)], by rw [List.length_append]; exact Nat.le_refl _, fun x => by simp, put_as f h hl a⟩
  | some b =>
    have e1 : (L.map fun z => if z.1 = n then (z.1, a) else z).map (·.1) = L.map (·.1) := by
      rw [List.map_map]
      refine List.map_congr_left fun z _ => ?_
      by_cases hz : z.1 = n
      · simp [hz]
      · simp [hz]
    refine ⟨L.map fun z => if z.1 = n then (z.1, a) else z, by rw [List.length_map]; omega, fun x => ?_, ?_⟩
    · rw [e1]
      refine ⟨.inl, fun q => q.elim id fun q => ?_⟩
      rw [q]
      exact List.mem_map.mpr ⟨_, getA_mem h, rfl⟩
    have e : putD (asD f L) (.str n) (f a) = if fits ((L.map fun z => (D.str z.1, f z.2)).length + 1) then (dput false (L.map fun z => (D.str z.1, f z.2)) (.str n) (f a)).map fun q => .dic false q else none := rfl
    have hf : fits ((L.map fun z => (D.str z.1, f z.2)).length + 1) = true := by
      rw [List.length_map]
      unfold fits
      exact decide_eq_true (by rw [sizeLine_eq]; omega)
    rw [e, hf, if_pos rfl]
    unfold dput
    simp only [keyA_str, Option.map_some]
    have : ((L.map fun z => (D.str z.1, f z.2)).any fun p => decide (keyA p.1 = some (Sum.inr n))) = true := by
      rw [List.any_map, List.any_eq_true]
      exact ⟨(n, b), getA_mem h, by simp [keyA_str]⟩
    rw [this, if_pos rfl]
    unfold asD
    rw [List.map_map, List.map_map]
    congr 2
    refine List.map_congr_left fun z _ => ?_
    by_cases hz : z.1 = n
    · simp [hz, keyA_str]
    · simp [hz, keyA_str]
theorem getA_ex {α : Type} {L : List (Str × α)} {x : Str} (h : x ∈ L.map (·.1)) : ∃ a, getA L x = some a := by
  cases q : getA L x with
  | none => exact absurd h (getA_none.mp q)
  | some a => exact ⟨a, rfl⟩
theorem uvw (j : Nat) (h : j < 6) : ∃ s : Str, s.length ≤ 100 ∧ idxD (.str "uvwxyz") (natD j) = some (.str s) := by
  match j, h with
  | 0, _ => exact ⟨"u", by decide, rfl⟩
  | 1, _ => exact ⟨"v", by decide, rfl⟩
  | 2, _ => exact ⟨"w", by decide, rfl⟩
  | 3, _ => exact ⟨"x", by decide, rfl⟩
  | 4, _ => exact ⟨"y", by decide, rfl⟩
  | 5, _ => exact ⟨"z", by decide, rfl⟩
theorem six_idx (j : Nat) (h : j < 6) : ∃ s : Str, s.length ≤ 100 ∧ idxD (.lst [.str "ann", .str "bo", .str "cy", .str "di", .str "eve", .str "fay"]) (natD j) = some (.str s) := by
  match j, h with
  | 0, _ => exact ⟨"ann", by decide, rfl⟩
  | 1, _ => exact ⟨"bo", by decide, rfl⟩
  | 2, _ => exact ⟨"cy", by decide, rfl⟩
  | 3, _ => exact ⟨"di", by decide, rfl⟩
  | 4, _ => exact ⟨"eve", by decide, rfl⟩
  | 5, _ => exact ⟨"fay", by decide, rfl⟩
theorem six_take (m : Nat) : slcD none (some ((1 + m : Nat) : Int)) (.lst [.str "ann", .str "bo", .str "cy", .str "di", .str "eve", .str "fay"]) = some (lkD (sixL.take (1 + m))) := by
  rw [s_slL, cut_to]
  show _ = some (D.lst ((sixL.take (1 + m)).map .str))
  rw [List.map_take]
  rfl
end RE
namespace L
theorem ahead_loop (F : Fn) {ds : List Nat} (hd : ds.length = 60) (x1 x2 x3 : Option D) : ∀ (l : List Str) (k : Nat) (A : List (Str × Int)) (x5 x6 : Option D), k + l.length ≤ 50 → A.length ≤ k →
    ∃ A' y5 y6, (∀ y, y ∈ A'.map (·.1) ↔ y ∈ A.map (·.1) ∨ y ∈ l) ∧ forD (gT (gsCons (gN 5) (gsCons (gN 6) (gsNil)))) (flC0 F) (enumL k (l.map .str)) [some (.lst (ds.map natD)), x1, x2, x3, some (ahD A), x5, x6, none, none, none, none] = some (.nx [some (.lst (ds.map natD)), x1, x2, x3, some (ahD A'), y5, y6, none, none, none, none])
  | [], k, A, x5, x6, _, _ => ⟨A, x5, x6, fun y => by simp, rfl⟩
  | s :: l, k, A, x5, x6, h1, h2 => by
    rw [List.length_cons] at h1
    obtain ⟨A1, a1, a2, a3⟩ := put_key D.int s (L := A) (by omega) (((ds.getD (1 + k) 0 % 199 : Nat) : Int) - 99)
    obtain ⟨A2, y5, y6, b1, b2⟩ := ahead_loop F hd x1 x2 x3 l (k + 1) A1 (some (natD k)) (some (.str s)) (by omega) (by omega)
    refine ⟨A2, y5, y6, fun y => ?_, ?_⟩
    · rw [b1, a2, List.mem_cons, or_assoc]
    have j1 : idxD (.lst (ds.map natD)) (natD (1 + k)) = some (natD (ds.getD (1 + k) 0)) := ds_idx (by omega)
    have j2 : addD (.int 1) (natD k) = some (natD (1 + k)) := rfl
    have j3 : modD (natD (ds.getD (1 + k) 0)) (.int 199) = some (natD (ds.getD (1 + k) 0 % 199)) := modN _ 199 (by decide)
    have j4 : subD (natD (ds.getD (1 + k) 0 % 199)) (.int 99) = some (.int (((ds.getD (1 + k) 0 % 199 : Nat) : Int) - 99)) := rfl
    have st : flC0 F [some (.lst (ds.map natD)), x1, x2, x3, some (ahD A), some (natD k), some (.str s), none, none, none, none] = some (.nx [some (.lst (ds.map natD)), x1, x2, x3, some (ahD A1), some (natD k), some (.str s), none, none, none, none]) := by
      have a3 : putD (ahD A) (.str s) (.int (((ds.getD (1 + k) 0 % 199 : Nat) : Int) - 99)) = some (ahD A1) := a3
      generalize D.lst (ds.map natD) = DS at *
      generalize ahD A = AD at *
      generalize ahD A1 = AD1 at *
      unfold flC0
      simp only [s_sSeq, s_sNil, s_sRet, s_sRetT, s_sIf, s_sAsg, s_sPar, s_sSetM, s_cND, s_cC, s_cB, s_cU, s_cTup, s_cLst, s_cNil, s_cCons, s_cCall, s_cFn, s_cIx, s_cAnd, s_cOr, s_cNot, s_cIf, s_cTr, s_cBT, s_cAndT, s_cOrT, s_cNotT, s_cCh, s_cChT, s_cSl, s_sFor, s_cWalk, s_cLc, s_lcOne, s_cTrue, s_sApp, s_gN, s_gT, s_gsNil, s_gsCons, s_cV0, s_cVs, s_finR, s_finN, s_boolD, s_truB, s_setAll0, s_setAll1, s_op1, s_op2, s_abs, s_addI, s_subI, eqI, neI, ltI, gtI, leI, geI, mkTup1, mkTup2, mkTup3, idx_t0, idx_t1, idx_t2, obS, omS, List.set_cons_zero, List.set_cons_succ, s_cNone, s_cPart, s_intD, s_cRng1, s_walkL, s_walkT, s_lenT, s_lenL, s_lenS, s_slT, s_slL, if_true, if_false, decide_true, decide_false, Bool.not_true, Bool.not_false, Bool.and_true, Bool.and_false, Bool.true_and, Bool.false_and, Bool.false_eq_true, decide_eq_true_eq, s_cEnum, s_sPut, s_revL, s_revT, s_listL, s_listT, s_tupleL, s_tupleT, s_isDicLst, s_isDicTup, s_isDicInt, wipeE_nil, wipeE_cons, j1, j2, j3, j4, a3]
    rw [List.map_cons, enumL, forD]
    have ga : gT (gsCons (gN 5) (gsCons (gN 6) gsNil)) (.tup [.int (k : Nat), .str s]) [some (.lst (ds.map natD)), x1, x2, x3, some (ahD A), x5, x6, none, none, none, none] = some [some (.lst (ds.map natD)), x1, x2, x3, some (ahD A), some (natD k), some (.str s), none, none, none, none] := rfl
    rw [ga, obS, st]
    simp only [obS]
    exact b2
theorem flash_step (F : Fn) {ds : List Nat} (hd : ds.length = 60) {lo : Nat} (hlo : lo ≤ 100) {lk : List Str} {A : List (Str × Int)} (hA : ∀ y ∈ lk, y ∈ A.map (·.1)) {fs : List Fl} (ok : FlOk fs) (k : Nat) (hk : k < 36) (x6 x7 x8 x9 x10 : Option D) :
    ∃ fs' y6 y7 y8 y9 y10, FlOk fs' ∧ flD0 F [some (.lst (ds.map natD)), some (natD lo), some (lkD lk), some (.lst (fs.map flD)), some (ahD A), some (natD k), x6, x7, x8, x9, x10] = some (.nx [some (.lst (ds.map natD)), some (natD lo), some (lkD lk), some (.lst (fs'.map flD)), some (ahD A), some (natD k), y6, y7, y8, y9, y10]) := by
  obtain ⟨fl, u1, u2⟩ := uvw (k / 6) (by omega)
  obtain ⟨who, w1, w2⟩ := six_idx (k % 6) (by omega)
  have d1 : fdivD (natD k) (.int 6) = some (natD (k / 6)) := fdN k 6 (by decide) (by decide)
  have d2 : modD (natD k) (.int 6) = some (natD (k % 6)) := modN k 6 (by decide)
  have mk6 : mkLst [.str "ann", .str "bo", .str "cy", .str "di", .str "eve", .str "fay"] = some (.lst [.str "ann", .str "bo", .str "cy", .str "di", .str "eve", .str "fay"]) := rfl
  have r0 : flD0 F [some (.lst (ds.map natD)), some (natD lo), some (lkD lk), some (.lst (fs.map flD)), some (ahD A), some (natD k), x6, x7, x8, x9, x10] = flD1 F [some (.lst (ds.map natD)), some (natD lo), some (lkD lk), some (.lst (fs.map flD)), some (ahD A), some (natD k), some (.str who), some (.str fl), x8, x9, x10] := by
    generalize D.lst (ds.map natD) = DS at *
    generalize ahD A = AD at *
    generalize D.lst (fs.map flD) = FD at *
    generalize lkD lk = LD at *
    unfold flD0
    simp only [s_sSeq, s_sNil, s_sRet, s_sRetT, s_sIf, s_sAsg, s_sPar, s_sSetM, s_cND, s_cC, s_cB, s_cU, s_cTup, s_cLst, s_cNil, s_cCons, s_cCall, s_cFn, s_cIx, s_cAnd, s_cOr, s_cNot, s_cIf, s_cTr, s_cBT, s_cAndT, s_cOrT, s_cNotT, s_cCh, s_cChT, s_cSl, s_sFor, s_cWalk, s_cLc, s_lcOne, s_cTrue, s_sApp, s_gN, s_gT, s_gsNil, s_gsCons, s_cV0, s_cVs, s_finR, s_finN, s_boolD, s_truB, s_setAll0, s_setAll1, s_op1, s_op2, s_abs, s_addI, s_subI, eqI, neI, ltI, gtI, leI, geI, mkTup1, mkTup2, mkTup3, idx_t0, idx_t1, idx_t2, obS, omS, List.set_cons_zero, List.set_cons_succ, s_cNone, s_cPart, s_intD, s_cRng1, s_walkL, s_walkT, s_lenT, s_lenL, s_lenS, s_slT, s_slL, if_true, if_false, decide_true, decide_false, Bool.not_true, Bool.not_false, Bool.and_true, Bool.and_false, Bool.true_and, Bool.false_and, Bool.false_eq_true, decide_eq_true_eq, s_cEnum, s_sPut, s_revL, s_revT, s_listL, s_listT, s_tupleL, s_tupleT, s_isDicLst, s_isDicTup, s_isDicInt, wipeE_nil, wipeE_cons, d1, d2, u2, mk6, w2]
  rw [r0]
  have il := in_lk who lk
  have len : lenD (.lst (fs.map flD)) = some (.int (fs.length : Int)) := by rw [s_lenL, List.length_map]
  have j1 : addD (.int 8) (natD k) = some (natD (8 + k)) := rfl
  have j2 : idxD (.lst (ds.map natD)) (natD (8 + k)) = some (natD (ds.getD (8 + k) 0)) := ds_idx (by omega)
  have j3 : modD (natD (ds.getD (8 + k) 0)) (.int 5) = some (natD (ds.getD (8 + k) 0 % 5)) := modN _ 5 (by decide)
  have lt : ltD (.int (fs.length : Int)) (.int 24) = some (.bl (decide ((fs.length : Int) < 24))) := ltI _ _
  have gt : gtD (natD (ds.getD (8 + k) 0 % 5)) (.int 1) = some (.bl (decide ((1 : Int) < ((ds.getD (8 + k) 0 % 5 : Nat) : Int)))) := gtI _ _
  have stay : ∀ (b1 b2 b3 : Bool), (b1 && (b2 && b3)) = false → inD (.str who) (lkD lk) = some (.bl b1) → ltD (.int (fs.length : Int)) (.int 24) = some (.bl b2) → gtD (natD (ds.getD (8 + k) 0 % 5)) (.int 1) = some (.bl b3) → flD1 F [some (.lst (ds.map natD)), some (natD lo), some (lkD lk), some (.lst (fs.map flD)), some (ahD A), some (natD k), some (.str who), some (.str fl), x8, x9, x10] = some (.nx [some (.lst (ds.map natD)), some (natD lo), some (lkD lk), some (.lst (fs.map flD)), some (ahD A), some (natD k), some (.str who), some (.str fl), x8, x9, x10]) := by
    intro b1 b2 b3 hb h1 h2 h3
    generalize D.lst (ds.map natD) = DS at *
    generalize ahD A = AD at *
    generalize D.lst (fs.map flD) = FD at *
    generalize lkD lk = LD at *
    unfold flD1
    cases b1 with
    | false => simp only [s_sSeq, s_sNil, s_sRet, s_sRetT, s_sIf, s_sAsg, s_sPar, s_sSetM, s_cND, s_cC, s_cB, s_cU, s_cTup, s_cLst, s_cNil, s_cCons, s_cCall, s_cFn, s_cIx, s_cAnd, s_cOr, s_cNot, s_cIf, s_cTr, s_cBT, s_cAndT, s_cOrT, s_cNotT, s_cCh, s_cChT, s_cSl, s_sFor, s_cWalk, s_cLc, s_lcOne, s_cTrue, s_sApp, s_gN, s_gT, s_gsNil, s_gsCons, s_cV0, s_cVs, s_finR, s_finN, s_boolD, s_truB, s_setAll0, s_setAll1, s_op1, s_op2, s_abs, s_addI, s_subI, eqI, neI, ltI, gtI, leI, geI, mkTup1, mkTup2, mkTup3, idx_t0, idx_t1, idx_t2, obS, omS, List.set_cons_zero, List.set_cons_succ, s_cNone, s_cPart, s_intD, s_cRng1, s_walkL, s_walkT, s_lenT, s_lenL, s_lenS, s_slT, s_slL, if_true, if_false, decide_true, decide_false, Bool.not_true, Bool.not_false, Bool.and_true, Bool.and_false, Bool.true_and, Bool.false_and, Bool.false_eq_true, decide_eq_true_eq, s_cEnum, s_sPut, s_revL, s_revT, s_listL, s_listT, s_tupleL, s_tupleT, s_isDicLst, s_isDicTup, s_isDicInt, wipeE_nil, wipeE_cons, h1]
    | true =>
      cases b2 with
      | false => simp only [s_sSeq, s_sNil, s_sRet, s_sRetT, s_sIf, s_sAsg, s_sPar, s_sSetM, s_cND, s_cC, s_cB, s_cU, s_cTup, s_cLst, s_cNil, s_cCons, s_cCall, s_cFn, s_cIx, s_cAnd, s_cOr, s_cNot, s_cIf, s_cTr, s_cBT, s_cAndT, s_cOrT, s_cNotT, s_cCh, s_cChT, s_cSl, s_sFor, s_cWalk, s_cLc, s_lcOne, s_cTrue, s_sApp, s_gN, s_gT, s_gsNil, s_gsCons, s_cV0, s_cVs, s_finR, s_finN, s_boolD, s_truB, s_setAll0, s_setAll1, s_op1, s_op2, s_abs, s_addI, s_subI, eqI, neI, ltI, gtI, leI, geI, mkTup1, mkTup2, mkTup3, idx_t0, idx_t1, idx_t2, obS, omS, List.set_cons_zero, List.set_cons_succ, s_cNone, s_cPart, s_intD, s_cRng1, s_walkL, s_walkT, s_lenT, s_lenL, s_lenS, s_slT, s_slL, if_true, if_false, decide_true, decide_false, Bool.not_true, Bool.not_false, Bool.and_true, Bool.and_false, Bool.true_and, Bool.false_and, Bool.false_eq_true, decide_eq_true_eq, s_cEnum, s_sPut, s_revL, s_revT, s_listL, s_listT, s_tupleL, s_tupleT, s_isDicLst, s_isDicTup, s_isDicInt, wipeE_nil, wipeE_cons, h1, len, h2]
      | true =>
        cases b3 with
        | false => simp only [s_sSeq, s_sNil, s_sRet, s_sRetT, s_sIf, s_sAsg, s_sPar, s_sSetM, s_cND, s_cC, s_cB, s_cU, s_cTup, s_cLst, s_cNil, s_cCons, s_cCall, s_cFn, s_cIx, s_cAnd, s_cOr, s_cNot, s_cIf, s_cTr, s_cBT, s_cAndT, s_cOrT, s_cNotT, s_cCh, s_cChT, s_cSl, s_sFor, s_cWalk, s_cLc, s_lcOne, s_cTrue, s_sApp, s_gN, s_gT, s_gsNil, s_gsCons, s_cV0, s_cVs, s_finR, s_finN, s_boolD, s_truB, s_setAll0, s_setAll1, s_op1, s_op2, s_abs, s_addI, s_subI, eqI, neI, ltI, gtI, leI, geI, mkTup1, mkTup2, mkTup3, idx_t0, idx_t1, idx_t2, obS, omS, List.set_cons_zero, List.set_cons_succ, s_cNone, s_cPart, s_intD, s_cRng1, s_walkL, s_walkT, s_lenT, s_lenL, s_lenS, s_slT, s_slL, if_true, if_false, decide_true, decide_false, Bool.not_true, Bool.not_false, Bool.and_true, Bool.and_false, Bool.true_and, Bool.false_and, Bool.false_eq_true, decide_eq_true_eq, s_cEnum, s_sPut, s_revL, s_revT, s_listL, s_listT, s_tupleL, s_tupleT, s_isDicLst, s_isDicTup, s_isDicInt, wipeE_nil, wipeE_cons, h1, len, h2, j1, j2, j3, h3]
        | true => exact absurd hb (by decide)
  by_cases hm : who ∈ lk
  rotate_left
  · rw [decide_eq_false hm] at il
    exact ⟨fs, _, _, _, _, _, ok, stay false _ _ rfl il lt gt⟩
  by_cases h24 : (fs.length : Int) < 24
  rotate_left
  · rw [decide_eq_true hm] at il
    rw [decide_eq_false h24] at lt
    exact ⟨fs, _, _, _, _, _, ok, stay true false _ rfl il lt gt⟩
  by_cases h1 : (1 : Int) < ((ds.getD (8 + k) 0 % 5 : Nat) : Int)
  rotate_left
  · rw [decide_eq_true hm] at il
    rw [decide_eq_true h24] at lt
    rw [decide_eq_false h1] at gt
    exact ⟨fs, _, _, _, _, _, ok, stay true true false rfl il lt gt⟩
  rw [decide_eq_true hm] at il
  rw [decide_eq_true h24] at lt
  rw [decide_eq_true h1] at gt
  obtain ⟨a, ga⟩ := getA_ex (hA who hm)
  have ix := idx_as D.int ga
  have k1 : addD (.int 50) (natD (k / 6)) = some (natD (50 + k / 6)) := rfl
  have k2 : idxD (.lst (ds.map natD)) (natD (50 + k / 6)) = some (natD (ds.getD (50 + k / 6) 0)) := ds_idx (by omega)
  have k3 : modD (natD (ds.getD (50 + k / 6) 0)) (.int 5000) = some (natD (ds.getD (50 + k / 6) 0 % 5000)) := modN _ 5000 (by decide)
  have k4 : addD (.int 1000) (natD (ds.getD (50 + k / 6) 0 % 5000)) = some (natD (1000 + ds.getD (50 + k / 6) 0 % 5000)) := rfl
  have k5 : subD (natD (1000 + ds.getD (50 + k / 6) 0 % 5000)) (.int a) = some (.int (((1000 + ds.getD (50 + k / 6) 0 % 5000 : Nat) : Int) - a)) := rfl
  have k6 : addD (natD lo) (.int 1) = some (.int ((lo + 1 : Nat) : Int)) := rfl
  have k7 : fdivD (natD (ds.getD (8 + k) 0)) (.int 5) = some (natD (ds.getD (8 + k) 0 / 5)) := fdN _ 5 (by decide) (by decide)
  have k8 : fdivD (natD (ds.getD (8 + k) 0)) (.int 300) = some (natD (ds.getD (8 + k) 0 / 300)) := fdN _ 300 (by decide) (by decide)
  have k9 : modD (natD (ds.getD (8 + k) 0 / 5)) (.int ((lo + 1 : Nat) : Int)) = some (natD (ds.getD (8 + k) 0 / 5 % (lo + 1))) := modN _ (lo + 1) (by omega)
  have k10 : modD (natD (ds.getD (8 + k) 0 / 300)) (.int ((lo + 1 : Nat) : Int)) = some (natD (ds.getD (8 + k) 0 / 300 % (lo + 1))) := modN _ (lo + 1) (by omega)
  generalize hm1 : (((1000 + ds.getD (50 + k / 6) 0 % 5000 : Nat) : Int) - a) = mo at *
  have k11 : subD (.int mo) (natD (ds.getD (8 + k) 0 / 5 % (lo + 1))) = some (.int (mo - ((ds.getD (8 + k) 0 / 5 % (lo + 1) : Nat) : Int))) := rfl
  have k12 : addD (.int mo) (natD (ds.getD (8 + k) 0 / 300 % (lo + 1))) = some (.int (mo + ((ds.getD (8 + k) 0 / 300 % (lo + 1) : Nat) : Int))) := rfl
  generalize hev : mo - ((ds.getD (8 + k) 0 / 5 % (lo + 1) : Nat) : Int) = ev at *
  generalize hlv : mo + ((ds.getD (8 + k) 0 / 300 % (lo + 1) : Nat) : Int) = lv at *
  have mk4 : mkTup [.str fl, .str who, .int ev, .int lv] = some (flD ((fl, who), (ev, lv))) := rfl
  have ft : fits (fs.length + 1) = true := fits_of (by omega)
  refine ⟨fs ++ [((fl, who), (ev, lv))], some (.str who), some (.str fl), some (.int mo), some (natD (ds.getD (8 + k) 0 / 5 % (lo + 1))), some (natD (ds.getD (8 + k) 0 / 300 % (lo + 1))), ⟨by rw [List.length_append, List.length_singleton]; omega, fun f hf => ?_⟩, ?_⟩
  · rcases List.mem_append.mp hf with hf | hf
    · exact ok.sh f hf
    · rw [List.mem_singleton.mp hf]
      exact ⟨u1, w1⟩
  have er : D.lst (fs.map flD ++ [flD ((fl, who), (ev, lv))]) = .lst ((fs ++ [((fl, who), (ev, lv))]).map flD) := by rw [List.map_append]; rfl
  have mkx : mkTup [.str fl, .str who, .int ev, .int lv] = some (flD ((fl, who), (ev, lv))) := mk4
  have ix : idxD (ahD A) (.str who) = some (.int a) := ix
  generalize D.lst (ds.map natD) = DS at *
  generalize ahD A = AD at *
  generalize lkD lk = LD at *
  have len' : lenD (.lst (fs.map flD)) = some (.int (fs.length : Int)) := len
  unfold flD1
  simp only [s_sSeq, s_sNil, s_sRet, s_sRetT, s_sIf, s_sAsg, s_sPar, s_sSetM, s_cND, s_cC, s_cB, s_cU, s_cTup, s_cLst, s_cNil, s_cCons, s_cCall, s_cFn, s_cIx, s_cAnd, s_cOr, s_cNot, s_cIf, s_cTr, s_cBT, s_cAndT, s_cOrT, s_cNotT, s_cCh, s_cChT, s_cSl, s_sFor, s_cWalk, s_cLc, s_lcOne, s_cTrue, s_sApp, s_gN, s_gT, s_gsNil, s_gsCons, s_cV0, s_cVs, s_finR, s_finN, s_boolD, s_truB, s_setAll0, s_setAll1, s_op1, s_op2, s_abs, s_addI, s_subI, eqI, neI, ltI, gtI, leI, geI, mkTup1, mkTup2, mkTup3, idx_t0, idx_t1, idx_t2, obS, omS, List.set_cons_zero, List.set_cons_succ, s_cNone, s_cPart, s_intD, s_cRng1, s_walkL, s_walkT, s_lenT, s_lenL, s_lenS, s_slT, s_slL, if_true, if_false, decide_true, decide_false, Bool.not_true, Bool.not_false, Bool.and_true, Bool.and_false, Bool.true_and, Bool.false_and, Bool.false_eq_true, decide_eq_true_eq, s_cEnum, s_sPut, s_revL, s_revT, s_listL, s_listT, s_tupleL, s_tupleT, s_isDicLst, s_isDicTup, s_isDicInt, wipeE_nil, wipeE_cons, il, List.length_map, lt, j1, j2, j3, gt, k1, d1, k2, k3, k4, ix, k5, k6, k7, k8, k9, k10, k11, k12, mk4, ft, er]
theorem law_flashes_ev (n : Nat) {ds : List Nat} (hd : ds.length = 60) {lo : Nat} (hlo : lo ≤ 100) : ∃ fs A, FlOk fs ∧ lvl (DT rows) (n + 1) "_law_flashes" [.lst (ds.map natD), natD lo] = some (.tup [.tup (fs.map flD), A]) := by
  rw [v__law_flashes, fl_eq]
  generalize lvl (DT rows) n = F
  have mk6 : mkLst [.str "ann", .str "bo", .str "cy", .str "di", .str "eve", .str "fay"] = some (.lst [.str "ann", .str "bo", .str "cy", .str "di", .str "eve", .str "fay"]) := rfl
  have j0 : idxD (.lst (ds.map natD)) (.int 0) = some (natD (ds.getD 0 0)) := ds_idx (i := 0) (by omega)
  have j1 : modD (natD (ds.getD 0 0)) (.int 6) = some (natD (ds.getD 0 0 % 6)) := modN _ 6 (by decide)
  have j2 : addD (.int 1) (natD (ds.getD 0 0 % 6)) = some (.int ((1 + ds.getD 0 0 % 6 : Nat) : Int)) := rfl
  have j3 : RE.intD (.int ((1 + ds.getD 0 0 % 6 : Nat) : Int)) = some ((1 + ds.getD 0 0 % 6 : Nat) : Int) := rfl
  have tk := six_take (ds.getD 0 0 % 6)
  have hm : ds.getD 0 0 % 6 < 6 := Nat.mod_lt _ (by decide)
  have hl6 : (sixL.take (1 + ds.getD 0 0 % 6)).length ≤ 6 := by rw [List.length_take]; exact Nat.min_le_right _ _
  generalize sixL.take (1 + ds.getD 0 0 % 6) = lk at *
  obtain ⟨A, y5, y6, a1, a2⟩ := ahead_loop F hd (some (natD lo)) (some (lkD lk)) (some (.lst [])) lk 0 [] none none (by omega) (Nat.le_refl _)
  have hA : ∀ y ∈ lk, y ∈ A.map (·.1) := fun y hy => (a1 y).mpr (.inr hy)
  obtain ⟨ρ', r1, fs, x5, x6, x7, x8, x9, x10, rfl, ok⟩ := for_inv (asg := gN 5) (body := flD0 F) (fun i ρ => ∃ fs x5 x6 x7 x8 x9 x10, ρ = [some (.lst (ds.map natD)), some (natD lo), some (lkD lk), some (.lst (fs.map flD)), some (ahD A), x5, x6, x7, x8, x9, x10] ∧ FlOk fs) ((List.range 36).map natD) 0
      [some (.lst (ds.map natD)), some (natD lo), some (lkD lk), some (.lst []), some (ahD A), y5, y6, none, none, none, none] ⟨[], y5, y6, none, none, none, none, rfl, ⟨by decide, fun _ q => (nomatch q)⟩⟩ (by
    rintro i hi ρ ⟨fs, x5, x6, x7, x8, x9, x10, rfl, ok⟩
    have hi : i < 36 := by simpa using hi
    rw [show ((List.range 36).map natD)[i]'(by simpa using hi) = natD i by simp, s_gN, obS]
    simp only [List.set_cons_succ, List.set_cons_zero]
    obtain ⟨fs', z6, z7, z8, z9, z10, q1, q2⟩ := flash_step F hd hlo hA ok i hi x6 x7 x8 x9 x10
    exact ⟨_, q2, fs', _, z6, z7, z8, z9, z10, rfl, q1⟩)
  refine ⟨fs, ahD A, ok, ?_⟩
  have r36 : rng1D (.int 36) = some ((List.range 36).map natD) := rng1_ev (j := 36) (by decide)
  have e0 : fl0 F [some (.lst (ds.map natD)), some (natD lo), none, none, none, none, none, none, none, none, none] = fl1 F [some (.lst (ds.map natD)), some (natD lo), some (lkD lk), some (.lst []), some (ahD []), none, none, none, none, none, none] := by
    have nl : ahD [] = .dic false [] := rfl
    have mk0 : mkLst [] = some (.lst []) := rfl
    have nd0 : isDic (.lst []) = false := rfl
    rw [nl]
    generalize D.lst (ds.map natD) = DS at *
    generalize lkD lk = LD at *
    unfold fl0
    simp only [s_sSeq, s_sNil, s_sRet, s_sRetT, s_sIf, s_sAsg, s_sPar, s_sSetM, s_cND, s_cC, s_cB, s_cU, s_cTup, s_cLst, s_cNil, s_cCons, s_cCall, s_cFn, s_cIx, s_cAnd, s_cOr, s_cNot, s_cIf, s_cTr, s_cBT, s_cAndT, s_cOrT, s_cNotT, s_cCh, s_cChT, s_cSl, s_sFor, s_cWalk, s_cLc, s_lcOne, s_cTrue, s_sApp, s_gN, s_gT, s_gsNil, s_gsCons, s_cV0, s_cVs, s_finR, s_finN, s_boolD, s_truB, s_setAll0, s_setAll1, s_op1, s_op2, s_abs, s_addI, s_subI, eqI, neI, ltI, gtI, leI, geI, mkTup1, mkTup2, mkTup3, idx_t0, idx_t1, idx_t2, obS, omS, List.set_cons_zero, List.set_cons_succ, s_cNone, s_cPart, s_intD, s_cRng1, s_walkL, s_walkT, s_lenT, s_lenL, s_lenS, s_slT, s_slL, if_true, if_false, decide_true, decide_false, Bool.not_true, Bool.not_false, Bool.and_true, Bool.and_false, Bool.true_and, Bool.false_and, Bool.false_eq_true, decide_eq_true_eq, s_cEnum, s_sPut, s_revL, s_revT, s_listL, s_listT, s_tupleL, s_tupleT, s_isDicLst, s_isDicTup, s_isDicInt, wipeE_nil, wipeE_cons, mk6, s_cPart, j0, j1, j2, j3, tk, mk0, nd0]
  have wk : walkL (lkD lk) = some (lk.map .str) := rfl
  have a2 : forD (gT (gsCons (gN 5) (gsCons (gN 6) (gsNil)))) (flC0 F) (enumL 0 (lk.map .str)) [some (.lst (ds.map natD)), some (natD lo), some (lkD lk), some (.lst []), some (ahD []), none, none, none, none, none, none] = _ := a2
  have e1 : fl1 F [some (.lst (ds.map natD)), some (natD lo), some (lkD lk), some (.lst []), some (ahD []), none, none, none, none, none, none] = fl2 F [some (.lst (ds.map natD)), some (natD lo), some (lkD lk), some (.lst []), some (ahD A), y5, y6, none, none, none, none] := by
    unfold fl1
    rw [s_sSeq, s_sFor, s_cEnum]
    simp only [s_cVs, s_cV0, obS, omS, wk]
    rw [a2]
    rfl
  have e2 : fl2 F [some (.lst (ds.map natD)), some (natD lo), some (lkD lk), some (.lst []), some (ahD A), y5, y6, none, none, none, none] = fl3 F [some (.lst (ds.map natD)), some (natD lo), some (lkD lk), some (.lst (fs.map flD)), some (ahD A), x5, x6, x7, x8, x9, x10] := by
    unfold fl2
    rw [s_sSeq, s_sFor, s_cRng1, s_cC, obS, r36, obS, r1]
    rfl
  rw [e0, e1, e2]
  generalize ahD A = AD at *
  unfold fl3
  simp only [s_sSeq, s_sNil, s_sRet, s_sRetT, s_sIf, s_sAsg, s_sPar, s_sSetM, s_cND, s_cC, s_cB, s_cU, s_cTup, s_cLst, s_cNil, s_cCons, s_cCall, s_cFn, s_cIx, s_cAnd, s_cOr, s_cNot, s_cIf, s_cTr, s_cBT, s_cAndT, s_cOrT, s_cNotT, s_cCh, s_cChT, s_cSl, s_sFor, s_cWalk, s_cLc, s_lcOne, s_cTrue, s_sApp, s_gN, s_gT, s_gsNil, s_gsCons, s_cV0, s_cVs, s_finR, s_finN, s_boolD, s_truB, s_setAll0, s_setAll1, s_op1, s_op2, s_abs, s_addI, s_subI, eqI, neI, ltI, gtI, leI, geI, mkTup1, mkTup2, mkTup3, idx_t0, idx_t1, idx_t2, obS, omS, List.set_cons_zero, List.set_cons_succ, s_cNone, s_cPart, s_intD, s_cRng1, s_walkL, s_walkT, s_lenT, s_lenL, s_lenS, s_slT, s_slL, if_true, if_false, decide_true, decide_false, Bool.not_true, Bool.not_false, Bool.and_true, Bool.and_false, Bool.true_and, Bool.false_and, Bool.false_eq_true, decide_eq_true_eq, s_cEnum, s_sPut, s_revL, s_revT, s_listL, s_listT, s_tupleL, s_tupleT, s_isDicLst, s_isDicTup, s_isDicInt, wipeE_nil, wipeE_cons]
end L
end
section
open PySem PySem.Spec PyProof.Rows L2 RE
namespace RE
theorem ndL_app2 (l : List Fl) : ndL (l.map flD) = 5 * l.length := by
  induction l with
  | nil => rfl
  | cons a l ih => simp only [List.map_cons, ndL, flD, nd, ih, List.length_cons]; omega
theorem flD_pq {f : Fl} (h : f.1.1.length ≤ 100 ∧ f.1.2.length ≤ 100) : pq 1 (flD f) = true := by
  unfold flD
  rw [pq_tup, List.all_eq_true]
  intro x hx
  simp only [List.mem_cons, List.not_mem_nil, or_false] at hx
  rcases hx with rfl | rfl | rfl | rfl
  · rw [pq_str]; exact decide_eq_true h.1
  · rw [pq_str]; exact decide_eq_true h.2
  · exact pq_int _ _
  · exact pq_int _ _
theorem fl_sm {fs : List Fl} (hl : fs.length ≤ 25) (h : ∀ f ∈ fs, f.1.1.length ≤ 100 ∧ f.1.2.length ≤ 100) : Sm 2 126 (.tup (fs.map flD)) ∧ Sm 2 126 (.lst (fs.map flD)) := by
  have hq : ∀ d ∈ fs.map flD, pq 1 d = true := fun d hd => by
    obtain ⟨f, hf, rfl⟩ := List.mem_map.mp hd
    exact flD_pq (h f hf)
  exact ⟨.tup hq (by rw [ndL_app2]; omega), .lst hq (by rw [ndL_app2]; omega)⟩
def OkL (xs : List D) : Prop := ∀ x ∈ xs, Sm 4 600 x
theorem len_chS (cs : List Nat) : (chS cs).length = cs.length := by rw [len_chs, chs_chS]
theorem cat_str {a b : Str} (h : a.length + b.length ≤ 100000) : addD (.str a) (.str b) = some (.str (chS (chs a ++ chs b))) := by
  simp only [addD]; rw [fits_of h]
  refine congrArg (fun z => some (D.str z)) ?_
  rw [← chS_chs (a ++ b)]
  refine congrArg chS ?_
  show (Str.append a b).cps.toList = _
  simp [Str.append, chs]
def manyC : List Nat := chs "abcdefghijklmnopqrstuvwxy"
def manyF (c : Nat) : Fl := ((chS (chs "f" ++ [c]), "ann"), (1, 2))
theorem many_sh : ∀ f ∈ manyC.map manyF, f.1.1.length ≤ 100 ∧ f.1.2.length ≤ 100 := fun f hf => by
  obtain ⟨c, _, rfl⟩ := List.mem_map.mp hf
  refine ⟨?_, by show ("ann" : Str).length ≤ 100; decide⟩
  show (chS (chs "f" ++ [c])).length ≤ 100
  rw [len_chS]
  simp
  have : (chs "f").length = 1 := by decide +kernel
  omega
theorem many_len : manyC.length = 25 := by decide +kernel
end RE
namespace L
def E11 (s mn a3 dr fl ah : Option D) (N : Nat) (ρ : RE.Env) : Prop := ∃ xs x7 x8 x9 x10, ρ = [s, mn, some (.lst xs), a3, dr, fl, ah, x7, x8, x9, x10, none] ∧ OkL xs ∧ xs.length = N
theorem inner_ev (n : Nat) (ds : List Nat) (hl : ds.length = 60) {fs : List Fl} (ok : FlOk fs) (k : Nat) (hk : k < 12) (s mn a3 ah : Option D) (N : Nat) (hN : N ≤ 500) (x8 x9 x10 : Option D) (xs : List D) (hx : OkL xs) (hxl : xs.length = N) :
    ∃ ρ', k11CC0 (lvl (DT rows) (n + 6)) [s, mn, some (.lst xs), a3, some (.lst (ds.map natD)), some (.tup (fs.map flD)), ah, some (natD k), x8, x9, x10, none] = some (.nx ρ') ∧ E11 s mn a3 (some (.lst (ds.map natD))) (some (.tup (fs.map flD))) ah (N + 3) ρ' := by
  have lr : ((ds.drop (4 * k)).take 5).length = 5 := by rw [List.length_take, List.length_drop]; omega
  have cr : cutL (ds.map natD) (some (4 * (k : Int))) (some (4 * (k : Int) + 5)) = ((ds.drop (4 * k)).take 5).map natD := by
    rw [cut_natL]
    have := cut_nat ds (4 * k) (4 * k + 5)
    rw [show 4 * k + 5 - 4 * k = 5 by omega] at this
    rw [← this]
    congr 2
  generalize (ds.drop (4 * k)).take 5 = r at *
  have sm := (fl_sm (by have := ok.len; omega) ok.sh).1
  obtain ⟨o1, f1, s1⟩ := bent_ev (n + 1) 2 126 (.tup (fs.map flD)) r (by decide) sm (by decide) (by omega)
  obtain ⟨o2, f2, s2⟩ := bent_ev n 3 254 o1 r.reverse (by decide) s1 (by decide) (by rw [List.length_reverse]; omega)
  obtain ⟨th, f3, s3⟩ := thing_ev 4 (n + 1) 0 (ds.drop k ++ ds.take k) (by decide) (by rw [List.length_append, List.length_drop, List.length_take]; omega) (by rw [List.length_append, List.length_drop, List.length_take]; omega)
  rw [List.map_reverse] at f2
  have f1 : lvl (DT rows) (n + 6) "_law_bent" [.tup (fs.map flD), .lst (r.map natD)] = some o1 := f1
  have f2 : lvl (DT rows) (n + 6) "_law_bent" [o1, .lst (r.map natD).reverse] = some o2 := f2
  have f3 : lvl (DT rows) (n + 6) "_law_thing" [.lst ((ds.drop k ++ ds.take k).map natD), .int 0] = some th := f3
  have c1 : cutL (ds.map natD) (some (k : Int)) none = (ds.drop k).map natD := by rw [cut_from, List.map_drop]
  have c2 : cutL (ds.map natD) none (some (k : Int)) = (ds.take k).map natD := by rw [cut_to, List.map_take]
  have a1 : addD (.lst ((ds.drop k).map natD)) (.lst ((ds.take k).map natD)) = some (.lst ((ds.drop k ++ ds.take k).map natD)) := by
    rw [add_lst (by simp only [List.length_map, List.length_drop, List.length_take]; omega), List.map_append]
  have m4 : mulD (.int 4) (natD k) = some (.int (4 * (k : Int))) := mul_ev (by decide) (wim_of (k := 10) (by omega) (by decide))
  have mk : mkLst [o1, o2, th] = some (.lst [o1, o2, th]) := rfl
  have a2' : addD (.lst xs) (.lst [o1, o2, th]) = some (.lst (xs ++ [o1, o2, th])) := add_lst (by simp only [List.length_cons, List.length_nil]; omega)
  have id' : RE.intD (natD k) = some (k : Int) := rfl
  refine ⟨_, ?_, xs ++ [o1, o2, th], some (natD k), some (.lst (r.map natD)), some o1, x10, rfl, ?_, by rw [List.length_append, hxl]; rfl⟩
  · generalize r.map natD = R at *
    generalize D.tup (fs.map flD) = FD at *
    generalize lvl (DT rows) (n + 6) = F at *
    unfold k11CC0
    simp only [s_sSeq, s_sNil, s_sRet, s_sRetT, s_sIf, s_sAsg, s_sPar, s_sSetM, s_cND, s_cC, s_cB, s_cU, s_cTup, s_cLst, s_cNil, s_cCons, s_cCall, s_cFn, s_cIx, s_cAnd, s_cOr, s_cNot, s_cIf, s_cTr, s_cBT, s_cAndT, s_cOrT, s_cNotT, s_cCh, s_cChT, s_cSl, s_sFor, s_cWalk, s_cLc, s_lcOne, s_cTrue, s_sApp, s_gN, s_gT, s_gsNil, s_gsCons, s_cV0, s_cVs, s_finR, s_finN, s_boolD, s_truB, s_setAll0, s_setAll1, s_op1, s_op2, s_abs, s_addI, s_subI, eqI, neI, ltI, gtI, leI, geI, mkTup1, mkTup2, mkTup3, idx_t0, idx_t1, idx_t2, obS, omS, List.set_cons_zero, List.set_cons_succ, s_cNone, s_cPart, s_intD, s_cRng1, s_walkL, s_walkT, s_lenT, s_lenL, s_lenS, s_slT, s_slL, if_true, if_false, decide_true, decide_false, Bool.not_true, Bool.not_false, Bool.and_true, Bool.and_false, Bool.true_and, Bool.false_and, Bool.false_eq_true, decide_eq_true_eq, s_cEnum, s_sPut, s_revL, s_revT, s_listL, s_listT, s_tupleL, s_tupleT, s_isDicLst, s_isDicTup, s_isDicInt, wipeE_nil, wipeE_cons, s_cPart, m4, id', cr]
    unfold k11CC1
    simp only [s_sSeq, s_sNil, s_sRet, s_sRetT, s_sIf, s_sAsg, s_sPar, s_sSetM, s_cND, s_cC, s_cB, s_cU, s_cTup, s_cLst, s_cNil, s_cCons, s_cCall, s_cFn, s_cIx, s_cAnd, s_cOr, s_cNot, s_cIf, s_cTr, s_cBT, s_cAndT, s_cOrT, s_cNotT, s_cCh, s_cChT, s_cSl, s_sFor, s_cWalk, s_cLc, s_lcOne, s_cTrue, s_sApp, s_gN, s_gT, s_gsNil, s_gsCons, s_cV0, s_cVs, s_finR, s_finN, s_boolD, s_truB, s_setAll0, s_setAll1, s_op1, s_op2, s_abs, s_addI, s_subI, eqI, neI, ltI, gtI, leI, geI, mkTup1, mkTup2, mkTup3, idx_t0, idx_t1, idx_t2, obS, omS, List.set_cons_zero, List.set_cons_succ, s_cNone, s_cPart, s_intD, s_cRng1, s_walkL, s_walkT, s_lenT, s_lenL, s_lenS, s_slT, s_slL, if_true, if_false, decide_true, decide_false, Bool.not_true, Bool.not_false, Bool.and_true, Bool.and_false, Bool.true_and, Bool.false_and, Bool.false_eq_true, decide_eq_true_eq, s_cEnum, s_sPut, s_revL, s_revT, s_listL, s_listT, s_tupleL, s_tupleT, s_isDicLst, s_isDicTup, s_isDicInt, wipeE_nil, wipeE_cons, f1]
    unfold k11CC2
    simp only [s_sSeq, s_sNil, s_sRet, s_sRetT, s_sIf, s_sAsg, s_sPar, s_sSetM, s_cND, s_cC, s_cB, s_cU, s_cTup, s_cLst, s_cNil, s_cCons, s_cCall, s_cFn, s_cIx, s_cAnd, s_cOr, s_cNot, s_cIf, s_cTr, s_cBT, s_cAndT, s_cOrT, s_cNotT, s_cCh, s_cChT, s_cSl, s_sFor, s_cWalk, s_cLc, s_lcOne, s_cTrue, s_sApp, s_gN, s_gT, s_gsNil, s_gsCons, s_cV0, s_cVs, s_finR, s_finN, s_boolD, s_truB, s_setAll0, s_setAll1, s_op1, s_op2, s_abs, s_addI, s_subI, eqI, neI, ltI, gtI, leI, geI, mkTup1, mkTup2, mkTup3, idx_t0, idx_t1, idx_t2, obS, omS, List.set_cons_zero, List.set_cons_succ, s_cNone, s_cPart, s_intD, s_cRng1, s_walkL, s_walkT, s_lenT, s_lenL, s_lenS, s_slT, s_slL, if_true, if_false, decide_true, decide_false, Bool.not_true, Bool.not_false, Bool.and_true, Bool.and_false, Bool.true_and, Bool.false_and, Bool.false_eq_true, decide_eq_true_eq, s_cEnum, s_sPut, s_revL, s_revT, s_listL, s_listT, s_tupleL, s_tupleT, s_isDicLst, s_isDicTup, s_isDicInt, wipeE_nil, wipeE_cons, f2, s_cPart, id', c1, c2, a1, f3, mk, a2']
  · intro z hz
    rcases List.mem_append.mp hz with hz | hz
    · exact hx z hz
    · simp only [List.mem_cons, List.not_mem_nil, or_false] at hz
      rcases hz with rfl | rfl | rfl
      · exact s1.up
      · exact s2.up
      · exact s3.up
theorem outer_ev (n : Nat) (ns : List Int) (hn : ns.length ≤ 63) (at_' : Nat) (ha : at_' ≤ 100) (N : Nat) (hN : N ≤ 400) (mn dr fl ah : Option D) (ρ : RE.Env) (h : E11 (some (.scr ns)) mn (some (natD at_')) dr fl ah N ρ) : ∃ dr' fl' ah' ρ', k11C0 (lvl (DT rows) (n + 6)) ρ = some (.nx ρ') ∧ E11 (some (.scr ns)) mn (some (natD at_')) dr' fl' ah' (N + 40) ρ' := by
  obtain ⟨xs, x7, x8, x9, x10, rfl, g1, g2⟩ := h
  obtain ⟨out, h1, h2, h3⟩ := draws_ev (n + 4) ns at_' 60 27720 hn (by omega) (by decide) (by decide) (by decide)
  rw [nats_of fun x hx => (h2 x hx).1] at h3
  have hl : (out.map Int.toNat).length = 60 := by rw [List.length_map, h1]
  generalize out.map Int.toNat = ds at *
  have h3 : lvl (DT rows) (n + 6) "_law_draws" [.scr ns, natD at_', .int 60, .int 27720] = some (.lst (ds.map natD)) := h3
  obtain ⟨fs, A, ok, h4⟩ := law_flashes_ev (n + 5) hl (lo := 9) (by decide)
  have h4 : lvl (DT rows) (n + 6) "_law_flashes" [.lst (ds.map natD), .int 9] = some (.tup [.tup (fs.map flD), A]) := h4
  have hfl := ok.len
  obtain ⟨sm1, sm2⟩ := fl_sm (by omega) ok.sh
  have sm3 := (fl_sm (fs := fs.reverse) (by rw [List.length_reverse]; omega) (fun f hf => ok.sh f (List.mem_reverse.mp hf))).1
  have sm4 := (fl_sm (fs := fs ++ fs.take 1) (by rw [List.length_append, List.length_take]; omega) (fun f hf => by
    rcases List.mem_append.mp hf with hf | hf
    · exact ok.sh f hf
    · exact ok.sh f (List.mem_of_mem_take hf))).1
  have e1 : listDD (.tup (fs.map flD)) = some (.lst (fs.map flD)) := rfl
  have e2 : slcD none (some 1) (.tup (fs.map flD)) = some (.tup ((fs.take 1).map flD)) := by
    rw [s_slT]
    have := cut_to (fs.map flD) 1
    rw [show ((1 : Nat) : Int) = 1 from rfl] at this
    rw [this, List.map_take]
  have e3 : addD (.tup (fs.map flD)) (.tup ((fs.take 1).map flD)) = some (.tup ((fs ++ fs.take 1).map flD)) := by
    rw [List.map_append]
    exact add_tup (by rw [List.length_map, List.length_map, List.length_take]; omega)
  have e4 : revD (.tup (fs.map flD)) = some (.tup (fs.reverse.map flD)) := by rw [List.map_reverse]; rfl
  have mk : ∀ a b c d : D, mkLst [a, b, c, d] = some (.lst [a, b, c, d]) := fun _ _ _ _ => rfl
  have i1' : RE.intD (.int 1) = some 1 := rfl
  have ad : addD (.lst xs) (.lst [.tup (fs.map flD), .lst (fs.map flD), .tup (fs.reverse.map flD), .tup ((fs ++ fs.take 1).map flD)]) = some (.lst (xs ++ [.tup (fs.map flD), .lst (fs.map flD), .tup (fs.reverse.map flD), .tup ((fs ++ fs.take 1).map flD)])) := add_lst (by simp only [List.length_cons, List.length_nil]; omega)
  obtain ⟨ρ1, i1, i2⟩ := for_inv (asg := gN 7) (body := k11CC0 (lvl (DT rows) (n + 6))) (fun i ρ => E11 (some (.scr ns)) mn (some (natD at_')) (some (.lst (ds.map natD))) (some (.tup (fs.map flD))) (some A) (N + 4 + 3 * i) ρ) ((List.range 12).map natD) 0
      [some (.scr ns), mn, some (.lst (xs ++ [.tup (fs.map flD), .lst (fs.map flD), .tup (fs.reverse.map flD), .tup ((fs ++ fs.take 1).map flD)])), some (natD at_'), some (.lst (ds.map natD)), some (.tup (fs.map flD)), some A, x7, x8, x9, x10, none] ⟨_, x7, x8, x9, x10, rfl, by
        intro z hz
        rcases List.mem_append.mp hz with hz | hz
        · exact g1 z hz
        · simp only [List.mem_cons, List.not_mem_nil, or_false] at hz
          rcases hz with rfl | rfl | rfl | rfl
          · exact sm1.up
          · exact sm2.up
          · exact sm3.up
          · exact sm4.up, by rw [List.length_append, g2]; rfl⟩ (by
    rintro i hi ρ ⟨xs', y7, y8, y9, y10, rfl, q1, q2⟩
    have hi : i < 12 := by simpa using hi
    rw [show ((List.range 12).map natD)[i]'(by simpa using hi) = natD i by simp, s_gN, obS]
    simp only [List.set_cons_succ, List.set_cons_zero]
    rw [Nat.zero_add] at q2 ⊢
    obtain ⟨ρ', p1, p2⟩ := inner_ev n ds hl ok i hi (some (.scr ns)) mn (some (natD at_')) (some A) (N + 4 + 3 * i) (by omega) y8 y9 y10 xs' q1 q2
    exact ⟨ρ', p1, p2⟩)
  have z12 : 0 + ((List.range 12).map natD).length = 12 := by simp
  rw [z12] at i2
  have r12 : rng1D (.int 12) = some ((List.range 12).map natD) := rng1_ev (j := 12) (by decide)
  refine ⟨some (.lst (ds.map natD)), some (.tup (fs.map flD)), some A, ρ1, ?_, i2⟩
  generalize lvl (DT rows) (n + 6) = F at *
  generalize D.lst (ds.map natD) = DS at *
  generalize (List.range 12).map natD = L12 at *
  have g0 : k11C0 F [some (.scr ns), mn, some (.lst xs), some (natD at_'), dr, fl, ah, x7, x8, x9, x10, none] = k11C3 F [some (.scr ns), mn, some (.lst (xs ++ [.tup (fs.map flD), .lst (fs.map flD), .tup (fs.reverse.map flD), .tup ((fs ++ fs.take 1).map flD)])), some (natD at_'), some DS, some (.tup (fs.map flD)), some A, x7, x8, x9, x10, none] := by
    generalize D.tup (fs.reverse.map flD) = T3 at *
    generalize D.tup ((fs ++ fs.take 1).map flD) = T4 at *
    generalize D.lst (fs.map flD) = T2 at *
    generalize D.tup (fs.map flD) = T1 at *
    unfold k11C0
    simp only [s_sSeq, s_sNil, s_sRet, s_sRetT, s_sIf, s_sAsg, s_sPar, s_sSetM, s_cND, s_cC, s_cB, s_cU, s_cTup, s_cLst, s_cNil, s_cCons, s_cCall, s_cFn, s_cIx, s_cAnd, s_cOr, s_cNot, s_cIf, s_cTr, s_cBT, s_cAndT, s_cOrT, s_cNotT, s_cCh, s_cChT, s_cSl, s_sFor, s_cWalk, s_cLc, s_lcOne, s_cTrue, s_sApp, s_gN, s_gT, s_gsNil, s_gsCons, s_cV0, s_cVs, s_finR, s_finN, s_boolD, s_truB, s_setAll0, s_setAll1, s_op1, s_op2, s_abs, s_addI, s_subI, eqI, neI, ltI, gtI, leI, geI, mkTup1, mkTup2, mkTup3, idx_t0, idx_t1, idx_t2, obS, omS, List.set_cons_zero, List.set_cons_succ, s_cNone, s_cPart, s_intD, s_cRng1, s_walkL, s_walkT, s_lenT, s_lenL, s_lenS, s_slT, s_slL, if_true, if_false, decide_true, decide_false, Bool.not_true, Bool.not_false, Bool.and_true, Bool.and_false, Bool.true_and, Bool.false_and, Bool.false_eq_true, decide_eq_true_eq, s_cEnum, s_sPut, s_revL, s_revT, s_listL, s_listT, s_tupleL, s_tupleT, s_isDicLst, s_isDicTup, s_isDicInt, wipeE_nil, wipeE_cons, h3]
    unfold k11C1
    simp only [s_sSeq, s_sNil, s_sRet, s_sRetT, s_sIf, s_sAsg, s_sPar, s_sSetM, s_cND, s_cC, s_cB, s_cU, s_cTup, s_cLst, s_cNil, s_cCons, s_cCall, s_cFn, s_cIx, s_cAnd, s_cOr, s_cNot, s_cIf, s_cTr, s_cBT, s_cAndT, s_cOrT, s_cNotT, s_cCh, s_cChT, s_cSl, s_sFor, s_cWalk, s_cLc, s_lcOne, s_cTrue, s_sApp, s_gN, s_gT, s_gsNil, s_gsCons, s_cV0, s_cVs, s_finR, s_finN, s_boolD, s_truB, s_setAll0, s_setAll1, s_op1, s_op2, s_abs, s_addI, s_subI, eqI, neI, ltI, gtI, leI, geI, mkTup1, mkTup2, mkTup3, idx_t0, idx_t1, idx_t2, obS, omS, List.set_cons_zero, List.set_cons_succ, s_cNone, s_cPart, s_intD, s_cRng1, s_walkL, s_walkT, s_lenT, s_lenL, s_lenS, s_slT, s_slL, if_true, if_false, decide_true, decide_false, Bool.not_true, Bool.not_false, Bool.and_true, Bool.and_false, Bool.true_and, Bool.false_and, Bool.false_eq_true, decide_eq_true_eq, s_cEnum, s_sPut, s_revL, s_revT, s_listL, s_listT, s_tupleL, s_tupleT, s_isDicLst, s_isDicTup, s_isDicInt, wipeE_nil, wipeE_cons, h4]
    unfold k11C2
    simp only [s_sSeq, s_sNil, s_sRet, s_sRetT, s_sIf, s_sAsg, s_sPar, s_sSetM, s_cND, s_cC, s_cB, s_cU, s_cTup, s_cLst, s_cNil, s_cCons, s_cCall, s_cFn, s_cIx, s_cAnd, s_cOr, s_cNot, s_cIf, s_cTr, s_cBT, s_cAndT, s_cOrT, s_cNotT, s_cCh, s_cChT, s_cSl, s_sFor, s_cWalk, s_cLc, s_lcOne, s_cTrue, s_sApp, s_gN, s_gT, s_gsNil, s_gsCons, s_cV0, s_cVs, s_finR, s_finN, s_boolD, s_truB, s_setAll0, s_setAll1, s_op1, s_op2, s_abs, s_addI, s_subI, eqI, neI, ltI, gtI, leI, geI, mkTup1, mkTup2, mkTup3, idx_t0, idx_t1, idx_t2, obS, omS, List.set_cons_zero, List.set_cons_succ, s_cNone, s_cPart, s_intD, s_cRng1, s_walkL, s_walkT, s_lenT, s_lenL, s_lenS, s_slT, s_slL, if_true, if_false, decide_true, decide_false, Bool.not_true, Bool.not_false, Bool.and_true, Bool.and_false, Bool.true_and, Bool.false_and, Bool.false_eq_true, decide_eq_true_eq, s_cEnum, s_sPut, s_revL, s_revT, s_listL, s_listT, s_tupleL, s_tupleT, s_isDicLst, s_isDicTup, s_isDicInt, wipeE_nil, wipeE_cons, s_cPart, i1', e1, e2, e3, e4, mk, ad]
  rw [g0]
  unfold k11C3
  rw [s_sSeq, s_sFor, s_cRng1, s_cC, obS, r12, obS, i1]
  rfl
theorem last_for (n : Nat) (xs : List D) (hx : OkL xs) (ρ : RE.Env) (hρ : ρ.length = 12) : ∃ ρ', forD (gN 10) (k11D0 (lvl (DT rows) (n + 6))) xs ρ = some (.nx ρ') := by
  obtain ⟨ρ', h1, _⟩ := for_inv (asg := gN 10) (body := k11D0 (lvl (DT rows) (n + 6))) (fun i ρ => ρ.length = 12) xs 0 ρ hρ (by
    intro i hi ρ hI
    have hs := hx _ (List.getElem_mem hi)
    generalize xs[i] = x at *
    have f1 : lvl (DT rows) (n + 6) "are_flashes" [x] = _ := are_flashes_ev (n + 3) 4 600 x hs (by decide)
    have f2 : lvl (DT rows) (n + 6) "_law_are_flashes" [x] = _ := law_are_flashes_ev (n + 4) 4 600 x hs (by decide)
    have f3 : lvl (DT rows) (n + 6) "_law_truly" [.bl (flashesB x), .bl (flashesB x)] = _ := truly_ev (n + 5) (flashesB x) (flashesB x)
    match ρ, hI with
    | [a0, a1, a2, a3, a4, a5, a6, a7, a8, a9, a10, a11], _ =>
      refine ⟨[a0, a1, a2, a3, a4, a5, a6, a7, a8, a9, some x, a11], ?_, rfl⟩
      generalize lvl (DT rows) (n + 6) = F at *
      unfold k11D0
      simp only [s_sSeq, s_sNil, s_sRet, s_sRetT, s_sIf, s_sAsg, s_sPar, s_sSetM, s_cND, s_cC, s_cB, s_cU, s_cTup, s_cLst, s_cNil, s_cCons, s_cCall, s_cFn, s_cIx, s_cAnd, s_cOr, s_cNot, s_cIf, s_cTr, s_cBT, s_cAndT, s_cOrT, s_cNotT, s_cCh, s_cChT, s_cSl, s_sFor, s_cWalk, s_cLc, s_lcOne, s_cTrue, s_sApp, s_gN, s_gT, s_gsNil, s_gsCons, s_cV0, s_cVs, s_finR, s_finN, s_boolD, s_truB, s_setAll0, s_setAll1, s_op1, s_op2, s_abs, s_addI, s_subI, eqI, neI, ltI, gtI, leI, geI, mkTup1, mkTup2, mkTup3, idx_t0, idx_t1, idx_t2, obS, omS, List.set_cons_zero, List.set_cons_succ, s_cNone, s_cPart, s_intD, s_cRng1, s_walkL, s_walkT, s_lenT, s_lenL, s_lenS, s_slT, s_slL, if_true, if_false, decide_true, decide_false, Bool.not_true, Bool.not_false, Bool.and_true, Bool.and_false, Bool.true_and, Bool.false_and, Bool.false_eq_true, decide_eq_true_eq, s_cEnum, s_sPut, s_revL, s_revT, s_listL, s_listT, s_tupleL, s_tupleT, s_isDicLst, s_isDicTup, s_isDicInt, wipeE_nil, wipeE_cons, f1, f2, f3])
  exact ⟨ρ', h1⟩
def fl1D (a b : Str) (i j : Int) : D := .tup [flD ((a, b), (i, j))]
def k11A : List D := [.tup [], .tup ((manyC.map manyF).map flD), .tup (((manyC.map manyF).take 24).map flD), .tup [flD (("f", "ann"), (1, 2)), flD (("f", "ann"), (3, 4))], fl1D "f" "ann" 2 1, fl1D "f" "f" 0 0]
def k11B : List D := [fl1D "f" "ann" 1000000 1000000, fl1D "f" "ann" 5 1000001, fl1D "f" "ann" (0 - 1) 1]
theorem law_ev (n : Nat) (ns : List Int) (hn : ns.length ≤ 63) : lvl (DT rows) (n + 7) "law" [.scr ns] = some (.bl true) := by
  rw [v_law, k11_eq]
  have sh1 : ∀ (a b : Str), a.length ≤ 100 → b.length ≤ 100 → ∀ i j : Int, Sm 4 600 (fl1D a b i j) := fun a b ha hb i j => (fl_sm (fs := [((a, b), (i, j))]) (by simp) (fun f hf => by rw [List.mem_singleton.mp hf]; exact ⟨ha, hb⟩)).1.up
  have l1 : ("f" : Str).length ≤ 100 := by decide
  have l2 : ("ann" : Str).length ≤ 100 := by decide
  have b0 : OkL (k11A ++ k11B) := by
    intro x hx
    simp only [k11A, k11B, List.cons_append, List.nil_append, List.mem_cons, List.not_mem_nil, or_false] at hx
    rcases hx with rfl | rfl | rfl | rfl | rfl | rfl | rfl | rfl | rfl
    · exact (fl_sm (fs := []) (by decide) (fun _ q => (nomatch q))).1.up
    · exact (fl_sm (by rw [List.length_map, many_len]; decide) many_sh).1.up
    · exact (fl_sm (by rw [List.length_take, List.length_map, many_len]; decide) (fun f hf => many_sh f (List.mem_of_mem_take hf))).1.up
    · refine (fl_sm (fs := [((("f" : Str), ("ann" : Str)), ((1 : Int), (2 : Int))), ((("f" : Str), ("ann" : Str)), ((3 : Int), (4 : Int)))]) (by simp) (fun f hf => ?_)).1.up
      simp only [List.mem_cons, List.not_mem_nil, or_false] at hf
      rcases hf with rfl | rfl
      · exact ⟨l1, l2⟩
      · exact ⟨l1, l2⟩
    · exact sh1 _ _ l1 l2 _ _
    · exact sh1 _ _ l1 l1 _ _
    · exact sh1 _ _ l1 l2 _ _
    · exact sh1 _ _ l1 l2 _ _
    · exact sh1 _ _ l1 l2 _ _
  have bl : (k11A ++ k11B).length = 9 := rfl
  obtain ⟨ρ1, i1, dr, fl, ah, xs, x3, x7, x8, x9, x10, rfl, q1, q2⟩ := for_inv (asg := gN 3) (body := k11C0 (lvl (DT rows) (n + 6))) (fun i ρ => ∃ dr fl ah xs x3 x7 x8 x9 x10, ρ = [some (.scr ns), some (.tup ((manyC.map manyF).map flD)), some (.lst xs), x3, dr, fl, ah, x7, x8, x9, x10, none] ∧ OkL xs ∧ xs.length = 9 + 40 * i) [natD 0, natD 2, natD 4] 0
      [some (.scr ns), some (.tup ((manyC.map manyF).map flD)), some (.lst (k11A ++ k11B)), none, none, none, none, none, none, none, none, none] ⟨none, none, none, _, none, none, none, none, none, rfl, b0, bl⟩ (by
    rintro i hi ρ ⟨dr, fl, ah, xs, x3, x7, x8, x9, x10, rfl, q1, q2⟩
    have hi : i < 3 := hi
    rw [Nat.zero_add] at q2 ⊢
    obtain ⟨a, ha, e⟩ : ∃ a : Nat, a ≤ 100 ∧ [natD 0, natD 2, natD 4][i]'hi = natD a := by
      match i, hi with
      | 0, _ => exact ⟨0, by decide, rfl⟩
      | 1, _ => exact ⟨2, by decide, rfl⟩
      | 2, _ => exact ⟨4, by decide, rfl⟩
    rw [e, s_gN, obS]
    simp only [List.set_cons_succ, List.set_cons_zero]
    obtain ⟨dr', fl', ah', ρ', p1, ys, y7, y8, y9, y10, rfl, p2, p3⟩ := outer_ev n ns hn a ha (9 + 40 * i) (by omega) _ dr fl ah _ ⟨xs, x7, x8, x9, x10, rfl, q1, q2⟩
    exact ⟨_, p1, dr', fl', ah', ys, some (natD a), y7, y8, y9, y10, rfl, p2, by omega⟩)
  obtain ⟨ρ3, h3⟩ := last_for n xs q1 [some (.scr ns), some (.tup ((manyC.map manyF).map flD)), some (.lst xs), x3, dr, fl, ah, x7, x8, x9, x10, none] rfl
  have m0 : mkTup [] = some (.tup []) := rfl
  have t1 : ∀ a : D, mkTup [a] = some (.tup [a]) := fun _ => rfl
  have t2 : ∀ a b : D, mkTup [a, b] = some (.tup [a, b]) := fun _ _ => rfl
  have t4 : ∀ a b c d : D, mkTup [a, b, c, d] = some (.tup [a, b, c, d]) := fun _ _ _ _ => rfl
  have pw : powD (.int 10) (.int 6) = some (.int 1000000) := rfl
  have pa : addD (.int 1000000) (.int 1) = some (.int 1000001) := rfl
  have sb : subD (.int 0) (.int 1) = some (.int (0 - 1)) := rfl
  have mA : mkLst [.tup [], .tup ((manyC.map manyF).map flD), .tup (((manyC.map manyF).take 24).map flD), .tup [.tup [.str "f", .str "ann", .int 1, .int 2], .tup [.str "f", .str "ann", .int 3, .int 4]], .tup [.tup [.str "f", .str "ann", .int 2, .int 1]], .tup [.tup [.str "f", .str "f", .int 0, .int 0]]] = some (.lst k11A) := rfl
  have mB : mkLst [.tup [.tup [.str "f", .str "ann", .int 1000000, .int 1000000]], .tup [.tup [.str "f", .str "ann", .int 5, .int 1000001]], .tup [.tup [.str "f", .str "ann", .int (0 - 1), .int 1]]] = some (.lst k11B) := rfl
  have ad : addD (.lst k11A) (.lst k11B) = some (.lst (k11A ++ k11B)) := add_lst (by decide)
  have cut : slcD none (some 24) (.tup ((manyC.map manyF).map flD)) = some (.tup (((manyC.map manyF).take 24).map flD)) := by
    rw [s_slT]
    have := cut_to ((manyC.map manyF).map flD) 24
    rw [show ((24 : Nat) : Int) = 24 from rfl] at this
    rw [this, List.map_take]
  have i24 : RE.intD (.int 24) = some 24 := rfl
  generalize lvl (DT rows) (n + 6) = F at *
  have cm : cLc [11] (cWalk (cC (.str "abcdefghijklmnopqrstuvwxy"))) (gN 11) (cTrue) (cTup (cCons (cB addD (cC (.str "f")) (cV 11)) (cCons (cC (.str "ann")) (cCons (cC (.int 1)) (cCons (cC (.int 2)) (cNil)))))) F [some (.scr ns), none, none, none, none, none, none, none, none, none, none, none] = some (.lst ((manyC.map manyF).map flD)) := by
    have wl : walkL (.str "abcdefghijklmnopqrstuvwxy") = some (manyC.map fun c => .str (chS [c])) := walk_str _
    have : lcAll (lcOne (gN 11) (cTrue) (cTup (cCons (cB addD (cC (.str "f")) (cV 11)) (cCons (cC (.str "ann")) (cCons (cC (.int 1)) (cCons (cC (.int 2)) (cNil)))))) F [some (.scr ns), none, none, none, none, none, none, none, none, none, none, none]) (manyC.map fun c => .str (chS [c])) = some ((manyC.map manyF).map flD) := by
      rw [List.map_map]
      refine lc_map fun c _ => ?_
      have ca : addD (.str "f") (.str (chS [c])) = some (.str (chS (chs "f" ++ [c]))) := by
        have := cat_str (a := "f") (b := chS [c]) (by rw [len_chS]; have : ("f" : Str).length = 1 := by decide
                                                      rw [this]; simp)
        rwa [chs_chS] at this
      have er : D.tup [.str (chS (chs "f" ++ [c])), .str "ann", .int 1, .int 2] = flD (manyF c) := rfl
      simp only [s_sSeq, s_sNil, s_sRet, s_sRetT, s_sIf, s_sAsg, s_sPar, s_sSetM, s_cND, s_cC, s_cB, s_cU, s_cTup, s_cLst, s_cNil, s_cCons, s_cCall, s_cFn, s_cIx, s_cAnd, s_cOr, s_cNot, s_cIf, s_cTr, s_cBT, s_cAndT, s_cOrT, s_cNotT, s_cCh, s_cChT, s_cSl, s_sFor, s_cWalk, s_cLc, s_lcOne, s_cTrue, s_sApp, s_gN, s_gT, s_gsNil, s_gsCons, s_cV0, s_cVs, s_finR, s_finN, s_boolD, s_truB, s_setAll0, s_setAll1, s_op1, s_op2, s_abs, s_addI, s_subI, eqI, neI, ltI, gtI, leI, geI, mkTup1, mkTup2, mkTup3, idx_t0, idx_t1, idx_t2, obS, omS, List.set_cons_zero, List.set_cons_succ, s_cNone, s_cPart, s_intD, s_cRng1, s_walkL, s_walkT, s_lenT, s_lenL, s_lenS, s_slT, s_slL, if_true, if_false, decide_true, decide_false, Bool.not_true, Bool.not_false, Bool.and_true, Bool.and_false, Bool.true_and, Bool.false_and, Bool.false_eq_true, decide_eq_true_eq, s_cEnum, s_sPut, s_revL, s_revT, s_listL, s_listT, s_tupleL, s_tupleT, s_isDicLst, s_isDicTup, s_isDicInt, wipeE_nil, wipeE_cons, ca, t4, er, Function.comp]
    rw [s_cLc]
    simp only [s_cWalk, s_cC, obS, wl, wipeE_cons, wipeE_nil, List.set_cons_succ, List.set_cons_zero]
    rw [this, obS, mkLst_ev (by rw [List.length_map, List.length_map, many_len]; decide)]
  have e4 : k114 F [some (.scr ns), some (.tup ((manyC.map manyF).map flD)), some (.lst xs), x3, dr, fl, ah, x7, x8, x9, x10, none] = some (.rt false (.bl true)) := by
    unfold k114
    rw [s_sSeq, s_sFor, s_cWalk, s_cVs, s_cVs, s_cV0, obS, s_walkL, obS, h3]
    rfl
  have e3 : k113 F [some (.scr ns), some (.tup ((manyC.map manyF).map flD)), some (.lst (k11A ++ k11B)), none, none, none, none, none, none, none, none, none] = some (.rt false (.bl true)) := by
    unfold k113
    rw [s_sSeq, s_sFor, s_cWalk, s_cTup]
    simp only [s_cCons, s_cC, s_cNil, obS, mkTup3, s_walkT]
    have i1 : forD (gN 3) (k11C0 F) [.int 0, .int 2, .int 4] _ = _ := i1
    rw [i1]
    exact e4
  have e1 : k110 F [some (.scr ns), none, none, none, none, none, none, none, none, none, none, none] = k113 F [some (.scr ns), some (.tup ((manyC.map manyF).map flD)), some (.lst (k11A ++ k11B)), none, none, none, none, none, none, none, none, none] := by
    clear e3 e4 i1 h3
    generalize (manyC.map manyF).map flD = MF at *
    generalize ((manyC.map manyF).take 24).map flD = MT at *
    generalize k11A = KA at *
    generalize k11B = KB at *
    generalize hE : (cLc [11] (cWalk (cC (.str "abcdefghijklmnopqrstuvwxy"))) (gN 11) (cTrue) (cTup (cCons (cB addD (cC (.str "f")) (cV 11)) (cCons (cC (.str "ann")) (cCons (cC (.int 1)) (cCons (cC (.int 2)) (cNil))))))) = E at *
    unfold k110
    rw [hE]
    simp only [s_sSeq, s_sNil, s_sRet, s_sRetT, s_sIf, s_sAsg, s_sPar, s_sSetM, s_cND, s_cC, s_cB, s_cU, s_cTup, s_cLst, s_cNil, s_cCons, s_cCall, s_cFn, s_cIx, s_cAnd, s_cOr, s_cNot, s_cIf, s_cTr, s_cBT, s_cAndT, s_cOrT, s_cNotT, s_cCh, s_cChT, s_cSl, s_sFor, s_cWalk, s_cLc, s_lcOne, s_cTrue, s_sApp, s_gN, s_gT, s_gsNil, s_gsCons, s_cV0, s_cVs, s_finR, s_finN, s_boolD, s_truB, s_setAll0, s_setAll1, s_op1, s_op2, s_abs, s_addI, s_subI, eqI, neI, ltI, gtI, leI, geI, mkTup1, mkTup2, mkTup3, idx_t0, idx_t1, idx_t2, obS, omS, List.set_cons_zero, List.set_cons_succ, s_cNone, s_cPart, s_intD, s_cRng1, s_walkL, s_walkT, s_lenT, s_lenL, s_lenS, s_slT, s_slL, if_true, if_false, decide_true, decide_false, Bool.not_true, Bool.not_false, Bool.and_true, Bool.and_false, Bool.true_and, Bool.false_and, Bool.false_eq_true, decide_eq_true_eq, s_cEnum, s_sPut, s_revL, s_revT, s_listL, s_listT, s_tupleL, s_tupleT, s_isDicLst, s_isDicTup, s_isDicInt, wipeE_nil, wipeE_cons, cm]
    unfold k111
    simp only [s_sSeq, s_sNil, s_sRet, s_sRetT, s_sIf, s_sAsg, s_sPar, s_sSetM, s_cND, s_cC, s_cB, s_cU, s_cTup, s_cLst, s_cNil, s_cCons, s_cCall, s_cFn, s_cIx, s_cAnd, s_cOr, s_cNot, s_cIf, s_cTr, s_cBT, s_cAndT, s_cOrT, s_cNotT, s_cCh, s_cChT, s_cSl, s_sFor, s_cWalk, s_cLc, s_lcOne, s_cTrue, s_sApp, s_gN, s_gT, s_gsNil, s_gsCons, s_cV0, s_cVs, s_finR, s_finN, s_boolD, s_truB, s_setAll0, s_setAll1, s_op1, s_op2, s_abs, s_addI, s_subI, eqI, neI, ltI, gtI, leI, geI, mkTup1, mkTup2, mkTup3, idx_t0, idx_t1, idx_t2, obS, omS, List.set_cons_zero, List.set_cons_succ, s_cNone, s_cPart, s_intD, s_cRng1, s_walkL, s_walkT, s_lenT, s_lenL, s_lenS, s_slT, s_slL, if_true, if_false, decide_true, decide_false, Bool.not_true, Bool.not_false, Bool.and_true, Bool.and_false, Bool.true_and, Bool.false_and, Bool.false_eq_true, decide_eq_true_eq, s_cEnum, s_sPut, s_revL, s_revT, s_listL, s_listT, s_tupleL, s_tupleT, s_isDicLst, s_isDicTup, s_isDicInt, wipeE_nil, wipeE_cons, s_cPart, i24, m0, t1, t2, t4, cut, mA]
    unfold k112
    simp only [s_sSeq, s_sNil, s_sRet, s_sRetT, s_sIf, s_sAsg, s_sPar, s_sSetM, s_cND, s_cC, s_cB, s_cU, s_cTup, s_cLst, s_cNil, s_cCons, s_cCall, s_cFn, s_cIx, s_cAnd, s_cOr, s_cNot, s_cIf, s_cTr, s_cBT, s_cAndT, s_cOrT, s_cNotT, s_cCh, s_cChT, s_cSl, s_sFor, s_cWalk, s_cLc, s_lcOne, s_cTrue, s_sApp, s_gN, s_gT, s_gsNil, s_gsCons, s_cV0, s_cVs, s_finR, s_finN, s_boolD, s_truB, s_setAll0, s_setAll1, s_op1, s_op2, s_abs, s_addI, s_subI, eqI, neI, ltI, gtI, leI, geI, mkTup1, mkTup2, mkTup3, idx_t0, idx_t1, idx_t2, obS, omS, List.set_cons_zero, List.set_cons_succ, s_cNone, s_cPart, s_intD, s_cRng1, s_walkL, s_walkT, s_lenT, s_lenL, s_lenS, s_slT, s_slL, if_true, if_false, decide_true, decide_false, Bool.not_true, Bool.not_false, Bool.and_true, Bool.and_false, Bool.true_and, Bool.false_and, Bool.false_eq_true, decide_eq_true_eq, s_cEnum, s_sPut, s_revL, s_revT, s_listL, s_listT, s_tupleL, s_tupleT, s_isDicLst, s_isDicTup, s_isDicInt, wipeE_nil, wipeE_cons, pw, pa, sb, t1, t4, mB, ad]
  rw [e1, e3]
  rfl
end L
end
theorem PySem.Challenge.cw_rigeyes_k11_flashes_known_holds : PySem.Challenge.rw_rigeyes_k11_flashes_known.Holds := by
  exact law_holds 7 ⟨rfl, by decide, by decide⟩ (fun ns hn => L.law_ev 0 ns hn)
