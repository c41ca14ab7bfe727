import PyProof.Rows.All
import Wide.All
import OpenK.AllK
import Wide.FinOn
import HandS.ForExc
import HandS.ForMost
import HandS.Deep
import HandS.TupAny
import HandS.Style
import PyProof.ReprReads
import HandS.SortInts
import HandS.More
import PyProof.ReprRoads
import PyProof.CallFns
import PyProof.ListStr
import HandS.Conv
import HandS.IsInst
import HandS.ExcOwn
import HandS.WordsExc
import HandS.Defaults
import HandS.Ends
import HandS.Walk
import PyProof.EnumMake
import PyProof.Draws
import HandS.Zip
import HandS.Comp
import HandS.Words
import HandS.Head0
import HandS.Head1
import HandS.Head2
import HandS.HeadEnd
import HandS.HeadHook1
import HandS.HeadHook2
import HandS.HeadHook4
import KE.KStateDown
import PyProof.StrLawsIn
import PyProof.StrLawsRepr
import PyProof.Rows.RegStrFacts
import HandS.Codes
import PySem.Challenge.RW_pastfolds_k02_lines_gone_over_sign_by_si
section
set_option Elab.async false
set_option linter.all false
set_option maxRecDepth 100000
set_option maxHeartbeats 4000000
set_option autoImplicit false
namespace Ev
open PySem PySem.Spec PyProof.Rows L2

/-! ### data -/
inductive D where
  | non | bl (b : Bool) | int (i : Int) | str (x : Str)
  | tup (ds : List D) | lst (ds : List D)
  | dic (kvs : List (D × D))
  | fn (j : Nat)
  | ins (k : Nat) (fs : List (Str × D))
  | scr (ns : List Int)
  deriving Inhabited

/-- what the addresses of the text's own defs and classes are -/
structure Ct where
  K : PySem.W.Frag
  fa : Nat → Addr
  ca : Nat → Addr

/-- a dict's object: its entries, key, hash, value -/
def DictAt (a : Addr) (es : List (V × Int × V)) : Heap → Prop := fun h =>
  es.length ≤ sizeLine ∧ (a == sysModules) = false ∧ ∃ o xs ep, h.get? a = some o ∧ o.ExactDict ∧ o.data = .dict xs ep ∧
    Paired (fun (e : V × Int × V) (x : DictEntry) => RelV e.1 x.key ∧ x.hash = e.2.1 ∧ RelV e.2.2 x.val) es xs.toList
def dHO (a : Addr) (es : List (V × Int × V)) : HO := .ext (DictAt a es)

mutual
def RepF (c : Ct) (G : Hp) : D → V → Prop
  | .non, v => v = .non
  | .bl b, v => v = .bl b
  | .int i, v => v = .int i
  | .str x, v => v = .str x
  | .tup ds, v => ∃ a vs, v = .ref a ∧ SqT c.K G a vs ∧ RepFs c G ds vs
  | .lst ds, v => ∃ a vs, v = .ref a ∧ G a = some (.lst vs) ∧ RepFs c G ds vs
  | .dic kvs, v => ∃ a es, v = .ref a ∧ G a = some (dHO a es) ∧ RepKV c G kvs es
  | .fn j, v => v = .ref (c.fa j)
  | .ins k fs, v => ∃ a dx gs, v = .ref a ∧ G a = some (.ins (c.ca k) dx gs) ∧ RepFF c G fs gs
  | .scr ns, v => ∃ a, v = .ref a ∧ SqL c.K G a (ns.map V.int)
def RepFs (c : Ct) (G : Hp) : List D → List V → Prop
  | [], vs => vs = []
  | d :: ds, vs => ∃ v r, vs = v :: r ∧ RepF c G d v ∧ RepFs c G ds r
def RepKV (c : Ct) (G : Hp) : List (D × D) → List (V × Int × V) → Prop
  | [], es => es = []
  | (k, d) :: kvs, es => ∃ kv h v r, es = (kv, h, v) :: r ∧ RepF c G k kv ∧ RepF c G d v ∧ RepKV c G kvs r
def RepFF (c : Ct) (G : Hp) : List (Str × D) → List (Str × V) → Prop
  | [], gs => gs = []
  | (x, d) :: fs, gs => ∃ v r, gs = (x, v) :: r ∧ RepF c G d v ∧ RepFF c G fs r
end

theorem SqT.same {K : PySem.W.Frag} {G H : Hp} {a : Addr} {vs : List V} (e : Same G H) (h : SqT K G a vs) : SqT K H a vs := by
  rcases h with (h | ⟨o, h⟩) | h
  · exact .inl (.inl (e _ _ h))
  · exact .inl (.inr ⟨o, e _ _ h⟩)
  · exact .inr h

mutual
theorem RepF.same {c : Ct} {G G' : Hp} (e : Same G G') : ∀ (d : D) (v : V), RepF c G d v → RepF c G' d v
  | .non, v, h => h
  | .bl b, v, h => h
  | .int i, v, h => h
  | .str x, v, h => h
  | .tup ds, v, h => by
    simp only [RepF] at h ⊢
    obtain ⟨a, vs, rfl, h1, h2⟩ := h
    exact ⟨a, vs, rfl, SqT.same e h1, RepFs.same e ds vs h2⟩
  | .lst ds, v, h => by
    simp only [RepF] at h ⊢
    obtain ⟨a, vs, rfl, h1, h2⟩ := h
    exact ⟨a, vs, rfl, e _ _ h1, RepFs.same e ds vs h2⟩
  | .dic kvs, v, h => by
    simp only [RepF] at h ⊢
    obtain ⟨a, es, rfl, h1, h2⟩ := h
    exact ⟨a, es, rfl, e _ _ h1, RepKV.same e kvs es h2⟩
  | .fn j, v, h => h
  | .ins k fs, v, h => by
    simp only [RepF] at h ⊢
    obtain ⟨a, dx, gs, rfl, h1, h2⟩ := h
    exact ⟨a, dx, gs, rfl, e _ _ h1, RepFF.same e fs gs h2⟩
  | .scr ns, v, h => by
    simp only [RepF] at h ⊢
    obtain ⟨a, rfl, h1⟩ := h
    exact ⟨a, rfl, Same.seq e h1⟩
theorem RepFs.same {c : Ct} {G G' : Hp} (e : Same G G') : ∀ (ds : List D) (vs : List V), RepFs c G ds vs → RepFs c G' ds vs
  | [], vs, h => h
  | d :: ds, vs, h => by
    simp only [RepFs] at h ⊢
    obtain ⟨v, r, rfl, h1, h2⟩ := h
    exact ⟨v, r, rfl, RepF.same e d v h1, RepFs.same e ds r h2⟩
theorem RepKV.same {c : Ct} {G G' : Hp} (e : Same G G') : ∀ (kvs : List (D × D)) (es : List (V × Int × V)), RepKV c G kvs es → RepKV c G' kvs es
  | [], vs, h => h
  | (k, d) :: kvs, vs, h => by
    simp only [RepKV] at h ⊢
    obtain ⟨kv, hh, v, r, rfl, h1, h2, h3⟩ := h
    exact ⟨kv, hh, v, r, rfl, RepF.same e k kv h1, RepF.same e d v h2, RepKV.same e kvs r h3⟩
theorem RepFF.same {c : Ct} {G G' : Hp} (e : Same G G') : ∀ (fs : List (Str × D)) (gs : List (Str × V)), RepFF c G fs gs → RepFF c G' fs gs
  | [], vs, h => h
  | (x, d) :: fs, vs, h => by
    simp only [RepFF] at h ⊢
    obtain ⟨v, r, rfl, h1, h2⟩ := h
    exact ⟨v, r, rfl, RepF.same e d v h1, RepFF.same e fs r h2⟩
end

theorem RepFs.length {c : Ct} {G : Hp} : ∀ {ds : List D} {vs : List V}, RepFs c G ds vs → vs.length = ds.length
  | [], vs, h => by simp only [RepFs] at h; subst h; rfl
  | d :: ds, vs, h => by
    simp only [RepFs] at h
    obtain ⟨v, r, rfl, _, h2⟩ := h
    simp only [List.length_cons, RepFs.length h2]
theorem RepFs.append {c : Ct} {G : Hp} : ∀ {ds es : List D} {vs ws : List V}, RepFs c G ds vs → RepFs c G es ws → RepFs c G (ds ++ es) (vs ++ ws)
  | [], es, vs, ws, h, h' => by simp only [RepFs] at h; subst h; exact h'
  | d :: ds, es, vs, ws, h, h' => by
    simp only [RepFs] at h
    obtain ⟨v, r, rfl, h1, h2⟩ := h
    simp only [List.cons_append, RepFs]
    exact ⟨v, _, rfl, h1, RepFs.append h2 h'⟩
theorem RepFs.one {c : Ct} {G : Hp} {d : D} {v : V} (h : RepF c G d v) : RepFs c G [d] [v] := by
  simp only [RepFs]
  exact ⟨v, [], rfl, h, rfl⟩
theorem RepFs.get {c : Ct} {G : Hp} : ∀ {ds : List D} {vs : List V} {i : Nat} {d : D}, RepFs c G ds vs → ds[i]? = some d → ∃ v, vs[i]? = some v ∧ RepF c G d v
  | [], vs, i, d, h, e => by simp at e
  | x :: ds, vs, 0, d, h, e => by
    simp only [RepFs] at h
    obtain ⟨v, r, rfl, h1, h2⟩ := h
    simp at e; subst e
    exact ⟨v, rfl, h1⟩
  | x :: ds, vs, i + 1, d, h, e => by
    simp only [RepFs] at h
    obtain ⟨v, r, rfl, h1, h2⟩ := h
    simp at e
    obtain ⟨w, hw, hr⟩ := RepFs.get h2 e
    exact ⟨w, by simpa using hw, hr⟩
theorem RepFs.get' {c : Ct} {G : Hp} : ∀ {ds : List D} {vs : List V} {i : Nat} {v : V}, RepFs c G ds vs → vs[i]? = some v → ∃ d, ds[i]? = some d ∧ RepF c G d v
  | [], vs, i, d, h, e => by simp only [RepFs] at h; subst h; simp at e
  | x :: ds, vs, 0, d, h, e => by
    simp only [RepFs] at h
    obtain ⟨v, r, rfl, h1, h2⟩ := h
    simp at e; subst e
    exact ⟨x, rfl, h1⟩
  | x :: ds, vs, i + 1, d, h, e => by
    simp only [RepFs] at h
    obtain ⟨v, r, rfl, h1, h2⟩ := h
    simp at e
    obtain ⟨w, hw, hr⟩ := RepFs.get' h2 e
    exact ⟨w, by simpa using hw, hr⟩
theorem RepFs.take {c : Ct} {G : Hp} : ∀ {ds : List D} {vs : List V} (n : Nat), RepFs c G ds vs → RepFs c G (ds.take n) (vs.take n)
  | [], vs, n, h => by simp only [RepFs] at h; subst h; simp [RepFs]
  | d :: ds, vs, 0, h => by simp [RepFs]
  | d :: ds, vs, n + 1, h => by
    simp only [RepFs] at h
    obtain ⟨v, r, rfl, h1, h2⟩ := h
    simp only [List.take_succ_cons, RepFs]
    exact ⟨v, _, rfl, h1, RepFs.take n h2⟩
theorem RepFs.drop {c : Ct} {G : Hp} : ∀ {ds : List D} {vs : List V} (n : Nat), RepFs c G ds vs → RepFs c G (ds.drop n) (vs.drop n)
  | [], vs, n, h => by simp only [RepFs] at h; subst h; simp [RepFs]
  | d :: ds, vs, 0, h => h
  | d :: ds, vs, n + 1, h => by
    simp only [RepFs] at h
    obtain ⟨v, r, rfl, h1, h2⟩ := h
    simp only [List.drop_succ_cons]
    exact RepFs.drop n h2
theorem RepFs.set {c : Ct} {G : Hp} {d : D} {v : V} (hd : RepF c G d v) : ∀ {ds : List D} {vs : List V} (n : Nat), RepFs c G ds vs → RepFs c G (ds.set n d) (vs.set n v)
  | [], vs, n, h => by simp only [RepFs] at h; subst h; simp [RepFs]
  | x :: ds, vs, 0, h => by
    simp only [RepFs] at h
    obtain ⟨w, r, rfl, h1, h2⟩ := h
    simp only [List.set_cons_zero, RepFs]
    exact ⟨v, r, rfl, hd, h2⟩
  | x :: ds, vs, n + 1, h => by
    simp only [RepFs] at h
    obtain ⟨w, r, rfl, h1, h2⟩ := h
    simp only [List.set_cons_succ, RepFs]
    exact ⟨w, _, rfl, h1, RepFs.set hd n h2⟩
theorem RepFs.dropLast {c : Ct} {G : Hp} {ds : List D} {vs : List V} (h : RepFs c G ds vs) : RepFs c G ds.dropLast vs.dropLast := by
  rw [List.dropLast_eq_take, List.dropLast_eq_take, h.length]
  exact h.take _
theorem RepFs.eraseIdx {c : Ct} {G : Hp} {ds : List D} {vs : List V} (h : RepFs c G ds vs) (n : Nat) : RepFs c G (ds.eraseIdx n) (vs.eraseIdx n) := by
  rw [List.eraseIdx_eq_take_drop_succ, List.eraseIdx_eq_take_drop_succ]
  exact (h.take _).append (h.drop _)
theorem RepFs.reverse {c : Ct} {G : Hp} : ∀ {ds : List D} {vs : List V}, RepFs c G ds vs → RepFs c G ds.reverse vs.reverse
  | [], vs, h => by simp only [RepFs] at h; subst h; simp [RepFs]
  | d :: ds, vs, h => by
    simp only [RepFs] at h
    obtain ⟨v, r, rfl, h1, h2⟩ := h
    rw [List.reverse_cons, List.reverse_cons]
    exact h2.reverse.append (.one h1)
theorem RepFs.ints {c : Ct} {G : Hp} : ∀ {ns : List Int} {vs : List V}, RepFs c G (ns.map D.int) vs → vs = ns.map V.int
  | [], vs, h => h
  | n :: ns, vs, h => by
    simp only [List.map_cons, RepFs, RepF] at h
    obtain ⟨v, r, rfl, rfl, h2⟩ := h
    rw [List.map_cons, RepFs.ints h2]
theorem RepFs.strs {c : Ct} {G : Hp} : ∀ {ns : List Str} {vs : List V}, RepFs c G (ns.map D.str) vs → vs = ns.map V.str
  | [], vs, h => h
  | n :: ns, vs, h => by
    simp only [List.map_cons, RepFs, RepF] at h
    obtain ⟨v, r, rfl, rfl, h2⟩ := h
    rw [List.map_cons, RepFs.strs h2]
theorem RepFs.bls {c : Ct} {G : Hp} : ∀ {ns : List Bool} {vs : List V}, RepFs c G (ns.map D.bl) vs → vs = ns.map V.bl
  | [], vs, h => h
  | n :: ns, vs, h => by
    simp only [List.map_cons, RepFs, RepF] at h
    obtain ⟨v, r, rfl, rfl, h2⟩ := h
    rw [List.map_cons, RepFs.bls h2]

/-! ### an own container as it stands now, what is in it frozen -/
def RepT (c : Ct) (G H : Hp) : D → Addr → Prop
  | .lst ds, a => ∃ vs, H a = some (.lst vs) ∧ RepFs c G ds vs
  | .dic kvs, a => ∃ es, H a = some (dHO a es) ∧ RepKV c G kvs es
  | .ins k fs, a => ∃ dx gs, H a = some (.ins (c.ca k) dx gs) ∧ RepFF c G fs gs
  | _, _ => False
/-- a dict of own containers -/
def RepKO (c : Ct) (G H : Hp) : List (D × D) → List (V × Int × V) → List Addr → Prop
  | [], es, as => es = [] ∧ as = []
  | (k, d) :: kvs, es, as => ∃ kv h b r bs, es = (kv, h, .ref b) :: r ∧ as = b :: bs ∧ RepF c G k kv ∧ RepT c G H d b ∧ RepKO c G H kvs r bs
def RepT2 (c : Ct) (G H : Hp) : D → Addr → List Addr → Prop
  | .dic kvs, a, as => ∃ es, H a = some (dHO a es) ∧ RepKO c G H kvs es as
  | _, _, _ => False

theorem RepT.same {c : Ct} {G G' H H' : Hp} {a : Addr} (e : Same G G') (eh : H' a = H a) : ∀ {d : D}, RepT c G H d a → RepT c G' H' d a
  | .lst ds, h => by
    obtain ⟨vs, h1, h2⟩ := h
    exact ⟨vs, eh.trans h1, RepFs.same e _ _ h2⟩
  | .dic kvs, h => by
    obtain ⟨vs, h1, h2⟩ := h
    exact ⟨vs, eh.trans h1, RepKV.same e _ _ h2⟩
  | .ins k fs, h => by
    obtain ⟨dx, gs, h1, h2⟩ := h
    exact ⟨dx, gs, eh.trans h1, RepFF.same e _ _ h2⟩
  | .non, h => h.elim
  | .bl _, h => h.elim
  | .int _, h => h.elim
  | .str _, h => h.elim
  | .tup _, h => h.elim
  | .fn _, h => h.elim
  | .scr _, h => h.elim
theorem RepT.there {c : Ct} {G H : Hp} {a : Addr} : ∀ {d : D}, RepT c G H d a → ∃ o, H a = some o
  | .lst ds, h => by obtain ⟨vs, h1, h2⟩ := h; exact ⟨_, h1⟩
  | .dic kvs, h => by obtain ⟨vs, h1, h2⟩ := h; exact ⟨_, h1⟩
  | .ins k fs, h => by obtain ⟨dx, gs, h1, h2⟩ := h; exact ⟨_, h1⟩
  | .non, h => h.elim
  | .bl _, h => h.elim
  | .int _, h => h.elim
  | .str _, h => h.elim
  | .tup _, h => h.elim
  | .fn _, h => h.elim
  | .scr _, h => h.elim
/-- frozen: the ghost heap takes it in -/
theorem RepT.freeze {c : Ct} {G H : Hp} {a : Addr} (n : G a = none) : ∀ {d : D}, RepT c G H d a → ∃ o, H a = some o ∧ RepF c (upd G a o) d (.ref a)
  | .lst ds, h => by
    obtain ⟨vs, h1, h2⟩ := h
    refine ⟨_, h1, ?_⟩
    simp only [RepF]
    exact ⟨a, vs, rfl, upd_same, RepFs.same (fun b o e => by rw [upd_ne (ne_of_none e n)]; exact e) _ _ h2⟩
  | .dic kvs, h => by
    obtain ⟨vs, h1, h2⟩ := h
    refine ⟨_, h1, ?_⟩
    simp only [RepF]
    exact ⟨a, vs, rfl, upd_same, RepKV.same (fun b o e => by rw [upd_ne (ne_of_none e n)]; exact e) _ _ h2⟩
  | .ins k fs, h => by
    obtain ⟨dx, gs, h1, h2⟩ := h
    refine ⟨_, h1, ?_⟩
    simp only [RepF]
    exact ⟨a, dx, gs, rfl, upd_same, RepFF.same (fun b o e => by rw [upd_ne (ne_of_none e n)]; exact e) _ _ h2⟩
  | .non, h => h.elim
  | .bl _, h => h.elim
  | .int _, h => h.elim
  | .str _, h => h.elim
  | .tup _, h => h.elim
  | .fn _, h => h.elim
  | .scr _, h => h.elim

/-- readable now: the outermost container by H, what is in it frozen -/
def RepN (c : Ct) (G H : Hp) : D → V → Prop
  | .lst ds, v => ∃ a vs, v = .ref a ∧ H a = some (.lst vs) ∧ RepFs c G ds vs
  | .dic kvs, v => ∃ a es, v = .ref a ∧ H a = some (dHO a es) ∧ RepKV c G kvs es
  | .ins k fs, v => ∃ a dx gs, v = .ref a ∧ H a = some (.ins (c.ca k) dx gs) ∧ RepFF c G fs gs
  | d, v => RepF c G d v
theorem RepN.of {c : Ct} {G H : Hp} (e : Same G H) : ∀ {d : D} {v : V}, RepF c G d v → RepN c G H d v
  | .lst ds, v, h => by
    simp only [RepF] at h
    obtain ⟨a, vs, rfl, h1, h2⟩ := h
    exact ⟨a, vs, rfl, e _ _ h1, h2⟩
  | .dic kvs, v, h => by
    simp only [RepF] at h
    obtain ⟨a, vs, rfl, h1, h2⟩ := h
    exact ⟨a, vs, rfl, e _ _ h1, h2⟩
  | .ins k fs, v, h => by
    simp only [RepF] at h
    obtain ⟨a, dx, gs, rfl, h1, h2⟩ := h
    exact ⟨a, dx, gs, rfl, e _ _ h1, h2⟩
  | .non, v, h => h
  | .bl _, v, h => h
  | .int _, v, h => h
  | .str _, v, h => h
  | .tup _, v, h => h
  | .fn _, v, h => h
  | .scr _, v, h => h
theorem RepN.ofT {c : Ct} {G H : Hp} {a : Addr} : ∀ {d : D}, RepT c G H d a → RepN c G H d (.ref a)
  | .lst ds, h => by obtain ⟨vs, h1, h2⟩ := h; exact ⟨a, vs, rfl, h1, h2⟩
  | .dic kvs, h => by obtain ⟨vs, h1, h2⟩ := h; exact ⟨a, vs, rfl, h1, h2⟩
  | .ins k fs, h => by obtain ⟨dx, gs, h1, h2⟩ := h; exact ⟨a, dx, gs, rfl, h1, h2⟩
  | .non, h => h.elim
  | .bl _, h => h.elim
  | .int _, h => h.elim
  | .str _, h => h.elim
  | .tup _, h => h.elim
  | .fn _, h => h.elim
  | .scr _, h => h.elim
end Ev
end
section
set_option Elab.async false
set_option linter.all false
set_option maxRecDepth 100000
set_option maxHeartbeats 4000000
set_option autoImplicit false
namespace Ev
open PySem PySem.Spec PyProof.Rows L2

abbrev Slt := Option (D × Nat)
abbrev Rho := List Slt
/-- how an evaluation ends -/
inductive Res (α : Type) where
  | ok (a : α) (ρ : Rho)
  | exc (x : D) (ρ : Rho)
  | bad
def Res.bind {α β : Type} (r : Res α) (f : α → Rho → Res β) : Res β :=
  match r with
  | .ok a ρ => f a ρ
  | .exc x ρ => .exc x ρ
  | .bad => .bad
theorem Res.bind_ok {α β : Type} (a : α) (ρ : Rho) (f : α → Rho → Res β) : (Res.ok a ρ).bind f = f a ρ := rfl

/-- a def's frame: what stood at its entry, what it may change -/
structure Fm where
  c : Ct
  B : Hp
  G0 : Hp
  as : List Addr
  ps : List Nat

def SlotR (c : Ct) (G H : Hp) : Nat → D → V → List Addr → Prop
  | 0, d, v, q => q = [] ∧ RepF c G d v
  | 1, d, v, q => ∃ a, v = .ref a ∧ q = [a] ∧ RepT c G H d a
  | 2, d, v, q => ∃ a bs, v = .ref a ∧ q = a :: bs ∧ RepT2 c G H d a bs
  | _, _, _, _ => False

structure EnvOk (F : Fm) (G H : Hp) (σ : L2.St) (ρ : Rho) (fp : Nat → List Addr) : Prop where
  g0 : Same F.G0 G
  le : Same G H
  kp : ∀ a o, F.B a = some o → a ∉ F.as → H a = some o
  nw : ∀ a o, G a = some o → F.G0 a = some o ∨ F.B a = none ∨ a ∈ F.as
  sl : ∀ (i : Nat) d l, ρ[i]? = some (some (d, l)) → ∃ v, σ[i]? = some (some v) ∧ SlotR F.c G H l d v (fp i)
  no : ∀ (i : Nat), (∀ d l, ρ[i]? ≠ some (some (d, l))) → fp i = []
  nd : ∀ i, (fp i).Nodup
  dj : ∀ i j a, a ∈ fp i → a ∈ fp j → i = j
  ow : ∀ i a, a ∈ fp i → G a = none ∧ (F.B a = none ∨ a ∈ F.as)
  io : ∀ (k p : Nat) a, F.ps[k]? = some p → F.as[k]? = some a → σ[p]? = some (some (.ref a))
  len : ρ.length = σ.length

theorem RepKO.there {c : Ct} {G H : Hp} : ∀ {kvs : List (D × D)} {es : List (V × Int × V)} {as : List Addr} {b : Addr}, RepKO c G H kvs es as → b ∈ as → ∃ o, H b = some o
  | [], es, as, b, h, hb => by
    obtain ⟨_, rfl⟩ := h
    cases hb
  | (k, d) :: kvs, es, as, b, h, hb => by
    obtain ⟨kv, hh, b', r, bs, rfl, rfl, h1, h2, h3⟩ := h
    rcases List.mem_cons.mp hb with e | hb
    · subst e; exact h2.there
    · exact RepKO.there h3 hb
theorem RepKO.same {c : Ct} {G G' H H' : Hp} (e : Same G G') : ∀ {kvs : List (D × D)} {es : List (V × Int × V)} {as : List Addr}, (∀ b ∈ as, H' b = H b) → RepKO c G H kvs es as → RepKO c G' H' kvs es as
  | [], es, as, _, h => h
  | (k, d) :: kvs, es, as, eh, h => by
    obtain ⟨kv, hh, b', r, bs, rfl, rfl, h1, h2, h3⟩ := h
    exact ⟨kv, hh, b', r, bs, rfl, rfl, RepF.same e _ _ h1, h2.same e (eh b' List.mem_cons_self), RepKO.same e (fun b hb => eh b (List.mem_cons_of_mem _ hb)) h3⟩
theorem RepT2.there {c : Ct} {G H : Hp} {a : Addr} {bs : List Addr} : ∀ {d : D}, RepT2 c G H d a bs → ∃ o, H a = some o
  | .dic kvs, h => by obtain ⟨vs, h1, h2⟩ := h; exact ⟨_, h1⟩
  | .lst _, h => h.elim
  | .ins _ _, h => h.elim
  | .non, h => h.elim
  | .bl _, h => h.elim
  | .int _, h => h.elim
  | .str _, h => h.elim
  | .tup _, h => h.elim
  | .fn _, h => h.elim
  | .scr _, h => h.elim
theorem RepT2.same {c : Ct} {G G' H H' : Hp} {a : Addr} {bs : List Addr} (e : Same G G') (ea : H' a = H a) (eh : ∀ b ∈ bs, H' b = H b) : ∀ {d : D}, RepT2 c G H d a bs → RepT2 c G' H' d a bs
  | .dic kvs, h => by
    obtain ⟨vs, h1, h2⟩ := h
    exact ⟨vs, ea.trans h1, RepKO.same e eh h2⟩
  | .lst _, h => h.elim
  | .ins _ _, h => h.elim
  | .non, h => h.elim
  | .bl _, h => h.elim
  | .int _, h => h.elim
  | .str _, h => h.elim
  | .tup _, h => h.elim
  | .fn _, h => h.elim
  | .scr _, h => h.elim
theorem RepT2.kids {c : Ct} {G H : Hp} {a : Addr} {bs : List Addr} {b : Addr} (hb : b ∈ bs) : ∀ {d : D}, RepT2 c G H d a bs → ∃ o, H b = some o
  | .dic kvs, h => by obtain ⟨vs, h1, h2⟩ := h; exact h2.there hb
  | .lst _, h => h.elim
  | .ins _ _, h => h.elim
  | .non, h => h.elim
  | .bl _, h => h.elim
  | .int _, h => h.elim
  | .str _, h => h.elim
  | .tup _, h => h.elim
  | .fn _, h => h.elim
  | .scr _, h => h.elim
theorem SlotR.there {c : Ct} {G H : Hp} {d : D} {v : V} {q : List Addr} {a : Addr} (ha : a ∈ q) : ∀ {l : Nat}, SlotR c G H l d v q → ∃ o, H a = some o
  | 0, h => by rw [h.1] at ha; cases ha
  | 1, h => by
    obtain ⟨b, _, rfl, h⟩ := h
    rw [List.mem_singleton] at ha; subst ha
    exact h.there
  | 2, h => by
    obtain ⟨b, bs, _, rfl, h⟩ := h
    rcases List.mem_cons.mp ha with e | ha
    · subst e; exact h.there
    · exact h.kids ha
  | n + 3, h => h.elim
theorem SlotR.same {c : Ct} {G G' H H' : Hp} {d : D} {v : V} {q : List Addr} (e : Same G G') (eh : ∀ a ∈ q, H' a = H a) : ∀ {l : Nat}, SlotR c G H l d v q → SlotR c G' H' l d v q
  | 0, h => ⟨h.1, RepF.same e _ _ h.2⟩
  | 1, h => by
    obtain ⟨b, rfl, rfl, h⟩ := h
    exact ⟨b, rfl, rfl, h.same e (eh b (by simp))⟩
  | 2, h => by
    obtain ⟨b, bs, rfl, rfl, h⟩ := h
    exact ⟨b, bs, rfl, rfl, h.same e (eh b (by simp)) fun b' hb => eh b' (List.mem_cons_of_mem _ hb)⟩
  | n + 3, h => h.elim

section
variable {F : Fm} {G G' H H' : Hp} {σ : L2.St} {ρ : Rho} {fp : Nat → List Addr}

theorem EnvOk.fpthere (E : EnvOk F G H σ ρ fp) {i : Nat} {a : Addr} (ha : a ∈ fp i) : ∃ o, H a = some o := by
  cases e : ρ[i]? with
  | none => rw [E.no i (fun d l z => by rw [e] at z; cases z)] at ha; cases ha
  | some o =>
    cases o with
    | none => rw [E.no i (fun d l z => by rw [e] at z; cases z)] at ha; cases ha
    | some p =>
      obtain ⟨d, l⟩ := p
      obtain ⟨v, _, h⟩ := E.sl i d l e
      exact h.there ha

structure Ext (G H G' H' : Hp) : Prop where
  gg : Same G G'
  gh : Same G' H'
  hh : Same H H'
  nw : ∀ a o, G' a = some o → G a = some o ∨ H a = none
theorem Ext.refl (h : Same G H) : Ext G H G H := ⟨Same.refl _, h, Same.refl _, fun _ _ e => .inl e⟩
theorem EnvOk.ext (E : EnvOk F G H σ ρ fp) (x : Ext G H G' H') : EnvOk F G' H' σ ρ fp where
  g0 := E.g0.trans x.gg
  le := x.gh
  kp := fun a o e n => x.hh _ _ (E.kp a o e n)
  nw := fun a o e => by
    rcases x.nw a o e with h | h
    · exact E.nw a o h
    · cases q : F.B a with
      | none => exact .inr (.inl rfl)
      | some o' =>
        by_cases ha : a ∈ F.as
        · exact .inr (.inr ha)
        · rw [E.kp a o' q ha] at h; cases h
  sl := fun i d l e => by
    obtain ⟨v, h1, h2⟩ := E.sl i d l e
    refine ⟨v, h1, h2.same x.gg fun a ha => ?_⟩
    obtain ⟨o, ho⟩ := E.fpthere ha
    rw [ho]
    exact x.hh _ _ ho
  no := E.no
  nd := E.nd
  dj := E.dj
  ow := fun i a ha => by
    refine ⟨?_, (E.ow i a ha).2⟩
    cases q : G' a with
    | none => rfl
    | some o =>
      obtain ⟨o', ho⟩ := E.fpthere ha
      rcases x.nw a o q with h | h
      · rw [(E.ow i a ha).1] at h; cases h
      · rw [ho] at h; cases h
  io := E.io
  len := E.len

/-! ### freezing -/
def frz (G H : Hp) (q : List Addr) : Hp := fun b => if b ∈ q then H b else G b
theorem frz_same (h : Same G H) (q : List Addr) : Same G (frz G H q) := fun b o e => by
  unfold frz
  by_cases hb : b ∈ q
  · rw [if_pos hb]; exact h _ _ e
  · rw [if_neg hb]; exact e
theorem frz_le (h : Same G H) (q : List Addr) : Same (frz G H q) H := fun b o e => by
  unfold frz at e
  by_cases hb : b ∈ q
  · rw [if_pos hb] at e; exact e
  · rw [if_neg hb] at e; exact h _ _ e
theorem frz_in {q : List Addr} {b : Addr} (h : b ∈ q) : frz G H q b = H b := by unfold frz; rw [if_pos h]
theorem frz_out {q : List Addr} {b : Addr} (h : b ∉ q) : frz G H q b = G b := by unfold frz; rw [if_neg h]
theorem EnvOk.frz (E : EnvOk F G H σ ρ fp) (q : List Addr) (hq : ∀ b ∈ q, (F.B b = none ∨ b ∈ F.as) ∧ ∀ i, b ∉ fp i) : EnvOk F (frz G H q) H σ ρ fp where
  g0 := E.g0.trans (frz_same E.le q)
  le := frz_le E.le q
  kp := E.kp
  nw := fun a o e => by
    by_cases ha : a ∈ q
    · exact .inr (hq a ha).1
    · rw [frz_out ha] at e; exact E.nw a o e
  sl := fun i d l e => by
    obtain ⟨v, h1, h2⟩ := E.sl i d l e
    exact ⟨v, h1, h2.same (frz_same E.le q) fun _ _ => rfl⟩
  no := E.no
  nd := E.nd
  dj := E.dj
  ow := fun i a ha => by
    have hn : a ∉ q := fun z => (hq a z).2 i ha
    rw [frz_out hn]
    exact E.ow i a ha
  io := E.io
  len := E.len
theorem RepT.frz {c : Ct} {a : Addr} {q : List Addr} (le : Same G H) (ha : a ∈ q) : ∀ {d : D}, RepT c G H d a → RepF c (frz G H q) d (.ref a)
  | .lst ds, h => by
    obtain ⟨vs, h1, h2⟩ := h
    simp only [RepF]
    exact ⟨a, vs, rfl, (frz_in ha).trans h1, RepFs.same (frz_same le q) _ _ h2⟩
  | .dic kvs, h => by
    obtain ⟨vs, h1, h2⟩ := h
    simp only [RepF]
    exact ⟨a, vs, rfl, (frz_in ha).trans h1, RepKV.same (frz_same le q) _ _ h2⟩
  | .ins k fs, h => by
    obtain ⟨dx, gs, h1, h2⟩ := h
    simp only [RepF]
    exact ⟨a, dx, gs, rfl, (frz_in ha).trans h1, RepFF.same (frz_same le q) _ _ h2⟩
  | .non, h => h.elim
  | .bl _, h => h.elim
  | .int _, h => h.elim
  | .str _, h => h.elim
  | .tup _, h => h.elim
  | .fn _, h => h.elim
  | .scr _, h => h.elim
theorem RepKO.frz {c : Ct} {q : List Addr} (le : Same G H) : ∀ {kvs : List (D × D)} {es : List (V × Int × V)} {as : List Addr}, (∀ b ∈ as, b ∈ q) → RepKO c G H kvs es as → RepKV c (frz G H q) kvs es
  | [], es, as, _, h => by simp only [RepKV]; exact h.1
  | (k, d) :: kvs, es, as, hq, h => by
    obtain ⟨kv, hh, b', r, bs, rfl, rfl, h1, h2, h3⟩ := h
    simp only [RepKV]
    exact ⟨kv, hh, _, r, rfl, RepF.same (frz_same le q) _ _ h1, h2.frz le (hq b' List.mem_cons_self), RepKO.frz le (fun b hb => hq b (List.mem_cons_of_mem _ hb)) h3⟩
theorem RepT2.frz {c : Ct} {a : Addr} {bs q : List Addr} (le : Same G H) (ha : a ∈ q) (hb : ∀ b ∈ bs, b ∈ q) : ∀ {d : D}, RepT2 c G H d a bs → RepF c (frz G H q) d (.ref a)
  | .dic kvs, h => by
    obtain ⟨vs, h1, h2⟩ := h
    simp only [RepF]
    exact ⟨a, vs, rfl, (frz_in ha).trans h1, h2.frz le hb⟩
  | .lst _, h => h.elim
  | .ins _ _, h => h.elim
  | .non, h => h.elim
  | .bl _, h => h.elim
  | .int _, h => h.elim
  | .str _, h => h.elim
  | .tup _, h => h.elim
  | .fn _, h => h.elim
  | .scr _, h => h.elim
/-- the kids frozen alone -/
theorem RepT2.frz1 {c : Ct} {a : Addr} {bs : List Addr} (le : Same G H) : ∀ {d : D}, RepT2 c G H d a bs → RepT c (Ev.frz G H bs) H d a
  | .dic kvs, h => by
    obtain ⟨vs, h1, h2⟩ := h
    exact ⟨vs, h1, h2.frz le fun b hb => hb⟩
  | .lst _, h => h.elim
  | .ins _ _, h => h.elim
  | .non, h => h.elim
  | .bl _, h => h.elim
  | .int _, h => h.elim
  | .str _, h => h.elim
  | .tup _, h => h.elim
  | .fn _, h => h.elim
  | .scr _, h => h.elim
theorem SlotR.frz {c : Ct} {d : D} {v : V} {q : List Addr} (le : Same G H) : ∀ {l : Nat}, SlotR c G H l d v q → RepF c (frz G H q) d v
  | 0, h => by
    obtain ⟨rfl, h⟩ := h
    exact RepF.same (frz_same le _) _ _ h
  | 1, h => by
    obtain ⟨b, rfl, rfl, h⟩ := h
    exact h.frz le (by simp)
  | 2, h => by
    obtain ⟨b, bs, rfl, rfl, h⟩ := h
    exact h.frz le (by simp) fun b' hb => List.mem_cons_of_mem _ hb
  | n + 3, h => h.elim

/-! ### the slots -/
theorem EnvOk.lt (E : EnvOk F G H σ ρ fp) {i : Nat} {d : D} {l : Nat} (e : ρ[i]? = some (some (d, l))) : i < σ.length := by
  rw [← E.len]
  exact (List.getElem?_eq_some_iff.mp e).1
/-- slot i is given another value -/
theorem EnvOk.put (E : EnvOk F G H σ ρ fp) {i : Nat} {v : V} {d : D} {l : Nat} {q : List Addr} (hi : i < σ.length) (hp : i ∉ F.ps ∨ σ[i]? = some (some v)) (hr : SlotR F.c G H l d v q) (nd : q.Nodup)
    (hq : ∀ b ∈ q, G b = none ∧ (F.B b = none ∨ b ∈ F.as) ∧ ∀ j, j ≠ i → b ∉ fp j) : EnvOk F G H (σ.set i (some v)) (ρ.set i (some (d, l))) (fun j => if j = i then q else fp j) where
  g0 := E.g0
  le := E.le
  kp := E.kp
  nw := E.nw
  sl := fun j d' l' e => by
    by_cases hj : j = i
    · subst hj
      rw [List.getElem?_set_self (by rw [E.len]; exact hi)] at e
      cases e
      refine ⟨v, List.getElem?_set_self hi, ?_⟩
      rw [if_pos rfl]; exact hr
    · rw [List.getElem?_set_ne (Ne.symm hj)] at e
      rw [List.getElem?_set_ne (Ne.symm hj), if_neg hj]
      exact E.sl j d' l' e
  no := fun j h => by
    by_cases hj : j = i
    · subst hj
      exact absurd (List.getElem?_set_self (by rw [E.len]; exact hi)) (h d l)
    · rw [if_neg hj]
      refine E.no j fun d' l' z => h d' l' ?_
      rw [List.getElem?_set_ne (Ne.symm hj)]; exact z
  nd := fun j => by
    by_cases hj : j = i
    · rw [if_pos hj]; exact nd
    · rw [if_neg hj]; exact E.nd j
  dj := fun j k a h1 h2 => by
    by_cases hj : j = i
    · by_cases hk : k = i
      · rw [hj, hk]
      · rw [if_pos hj] at h1; rw [if_neg hk] at h2
        exact absurd h2 ((hq a h1).2.2 k hk)
    · by_cases hk : k = i
      · rw [if_neg hj] at h1; rw [if_pos hk] at h2
        exact absurd h1 ((hq a h2).2.2 j hj)
      · rw [if_neg hj] at h1; rw [if_neg hk] at h2
        exact E.dj j k a h1 h2
  ow := fun j a h => by
    by_cases hj : j = i
    · rw [if_pos hj] at h
      exact ⟨(hq a h).1, (hq a h).2.1⟩
    · rw [if_neg hj] at h
      exact E.ow j a h
  io := fun k p a h1 h2 => by
    have z := E.io k p a h1 h2
    by_cases hpi : p = i
    · subst hpi
      rcases hp with hp | hp
      · exact absurd (List.mem_of_getElem? h1) hp
      · rw [List.getElem?_set_self hi]
        rw [hp] at z; exact z
    · rw [List.getElem?_set_ne (Ne.symm hpi)]; exact z
  len := by rw [List.length_set, List.length_set, E.len]
/-- the slots stay, their contents are told otherwise -/
theorem EnvOk.put' (E : EnvOk F G H σ ρ fp) {i : Nat} {v : V} {d : D} {l : Nat} {q : List Addr} (hv : σ[i]? = some (some v)) (hr : SlotR F.c G H l d v q) (nd : q.Nodup)
    (hq : ∀ b ∈ q, G b = none ∧ (F.B b = none ∨ b ∈ F.as) ∧ ∀ j, j ≠ i → b ∉ fp j) : EnvOk F G H σ (ρ.set i (some (d, l))) (fun j => if j = i then q else fp j) := by
  have hi := (List.getElem?_eq_some_iff.mp hv).1
  have z := E.put (v := v) hi (.inr hv) hr nd hq
  have e : σ.set i (some v) = σ := by
    obtain ⟨_, h⟩ := List.getElem?_eq_some_iff.mp hv
    rw [← h, List.set_getElem_self]
  rw [e] at z
  exact z
/-- slot i is forgotten; σ' may differ from σ at i -/
theorem EnvOk.drop (E : EnvOk F G H σ ρ fp) (i : Nat) : EnvOk F G H σ (ρ.set i none) (fun j => if j = i then [] else fp j) where
  g0 := E.g0
  le := E.le
  kp := E.kp
  nw := E.nw
  sl := fun j d' l' e => by
    by_cases hj : j = i
    · subst hj
      by_cases hlt : j < ρ.length
      · rw [List.getElem?_set_self hlt] at e; cases e
      · rw [List.getElem?_eq_none (by simpa using hlt)] at e; cases e
    · rw [List.getElem?_set_ne (Ne.symm hj)] at e
      rw [if_neg hj]
      exact E.sl j d' l' e
  no := fun j h => by
    by_cases hj : j = i
    · rw [if_pos hj]
    · rw [if_neg hj]
      refine E.no j fun d' l' z => h d' l' ?_
      rw [List.getElem?_set_ne (Ne.symm hj)]; exact z
  nd := fun j => by
    by_cases hj : j = i
    · rw [if_pos hj]; exact List.nodup_nil
    · rw [if_neg hj]; exact E.nd j
  dj := fun j k a h1 h2 => by
    by_cases hj : j = i
    · rw [if_pos hj] at h1; cases h1
    · by_cases hk : k = i
      · rw [if_pos hk] at h2; cases h2
      · rw [if_neg hj] at h1; rw [if_neg hk] at h2
        exact E.dj j k a h1 h2
  ow := fun j a h => by
    by_cases hj : j = i
    · rw [if_pos hj] at h; cases h
    · rw [if_neg hj] at h
      exact E.ow j a h
  io := E.io
  len := by rw [List.length_set, E.len]

/-! ### results -/
/-- from one state to a later one: what is in no slot stays, what is frozen or own is new or was own -/
structure Adv (G H : Hp) (fp : Nat → List Addr) (G' H' : Hp) (fp' : Nat → List Addr) : Prop where
  gg : Same G G'
  kp : ∀ a o, H a = some o → (∀ i, a ∉ fp i) → H' a = some o
  nw : ∀ a o, G' a = some o → G a = some o ∨ H a = none ∨ ∃ i, a ∈ fp i
  ff : ∀ i a, a ∈ fp' i → H a = none ∨ ∃ j, a ∈ fp j
theorem Adv.refl : Adv G H fp G H fp := ⟨Same.refl _, fun _ _ h _ => h, fun _ _ h => .inl h, fun i a h => .inr ⟨i, h⟩⟩
theorem Adv.trans {G1 G2 G3 H1 H2 H3 : Hp} {f1 f2 f3 : Nat → List Addr} (x : Adv G1 H1 f1 G2 H2 f2) (y : Adv G2 H2 f2 G3 H3 f3) : Adv G1 H1 f1 G3 H3 f3 := by
  have out : ∀ a o, H1 a = some o → (∀ i, a ∉ f1 i) → ∀ i, a ∉ f2 i := fun a o h n i z => by
    rcases x.ff i a z with e | ⟨j, e⟩
    · rw [h] at e; cases e
    · exact n j e
  have none_ : ∀ a, H2 a = none → H1 a = none ∨ ∃ i, a ∈ f1 i := fun a h => by
    by_cases hf : ∃ i, a ∈ f1 i
    · exact .inr hf
    · left
      cases q : H1 a with
      | none => rfl
      | some o =>
        rw [x.kp a o q fun i z => hf ⟨i, z⟩] at h; cases h
  have in_ : ∀ i a, a ∈ f2 i → H1 a = none ∨ ∃ j, a ∈ f1 j := x.ff
  exact ⟨x.gg.trans y.gg, fun a o h n => y.kp a o (x.kp a o h n) (out a o h n), fun a o h => by
    rcases y.nw a o h with e | e | ⟨i, e⟩
    · exact x.nw a o e
    · exact .inr (none_ a e)
    · exact .inr (in_ i a e), fun i a h => by
    rcases y.ff i a h with e | ⟨j, e⟩
    · exact none_ a e
    · exact in_ j a e⟩
theorem Ext.adv (x : Ext G H G' H') : Adv G H fp G' H' fp := ⟨x.gg, fun a o h _ => x.hh _ _ h, fun a o h => by
  rcases x.nw a o h with e | e
  · exact .inl e
  · exact .inr (.inl e), fun i a h => .inr ⟨i, h⟩⟩

abbrev Fps := Nat → List Addr
/-- a result's relation: the start's heap and footprints, the end's ghost, heap, footprints -/
abbrev RT (α β : Type) := Hp → Fps → Hp → Hp → Fps → α → β → Prop
/-- an expression's value: frozen, or own, new, and in no slot -/
def ResR (F : Fm) : RT (D × Nat) V := fun H0 fp0 G H fp p v =>
  ∃ q, SlotR F.c G H p.2 p.1 v q ∧ q.Nodup ∧ ∀ b ∈ q, G b = none ∧ (F.B b = none ∨ b ∈ F.as) ∧ (∀ j, b ∉ fp j) ∧ (H0 b = none ∨ ∃ i, b ∈ fp0 i)
theorem ResR.of {H0 : Hp} {fp0 : Fps} {d : D} {v : V} (h : RepF F.c G d v) : ResR F H0 fp0 G H fp (d, 0) v := ⟨[], ⟨rfl, h⟩, List.nodup_nil, fun _ z => nomatch z⟩
/-- a result that waits -/
theorem ResR.adv {H0 G1 H1 G2 H2 : Hp} {f0 f1 f2 : Fps} {p : D × Nat} {v : V} (r : ResR F H0 f0 G1 H1 f1 p v) (x : Adv G1 H1 f1 G2 H2 f2) : ResR F H0 f0 G2 H2 f2 p v := by
  obtain ⟨q, h1, h2, h3⟩ := r
  have there : ∀ b ∈ q, ∃ o, H1 b = some o := fun b hb => h1.there hb
  refine ⟨q, h1.same x.gg fun b hb => ?_, h2, fun b hb => ?_⟩
  · obtain ⟨o, ho⟩ := there b hb
    rw [ho]; exact x.kp b o ho (h3 b hb).2.2.1
  · obtain ⟨o, ho⟩ := there b hb
    obtain ⟨a1, a2, a3, a4⟩ := h3 b hb
    refine ⟨?_, a2, fun j z => ?_, a4⟩
    · cases e : G2 b with
      | none => rfl
      | some o' =>
        rcases x.nw b o' e with z | z | ⟨i, z⟩
        · rw [a1] at z; cases z
        · rw [ho] at z; cases z
        · exact absurd z (a3 i)
    · rcases x.ff j b z with e | ⟨i, e⟩
      · rw [ho] at e; cases e
      · exact a3 i e
/-- a result frozen -/
theorem EnvOk.frzR {H0 : Hp} {fp0 : Fps} (E : EnvOk F G H σ ρ fp) {p : D × Nat} {v : V} (r : ResR F H0 fp0 G H fp p v) : ∃ G', EnvOk F G' H σ ρ fp ∧ RepF F.c G' p.1 v ∧ Same G G' ∧
    ∀ a o, G' a = some o → G a = some o ∨ H0 a = none ∨ ∃ i, a ∈ fp0 i := by
  obtain ⟨q, h1, _, h2⟩ := r
  refine ⟨Ev.frz G H q, E.frz q fun b hb => ⟨(h2 b hb).2.1, (h2 b hb).2.2.1⟩, h1.frz E.le, frz_same E.le q, fun a o e => ?_⟩
  by_cases ha : a ∈ q
  · exact .inr (h2 a ha).2.2.2
  · rw [frz_out ha] at e; exact .inl e
/-- slot i frozen -/
theorem EnvOk.frzS (E : EnvOk F G H σ ρ fp) {i : Nat} {l : Nat} {d : D} (e : ρ[i]? = some (some (d, l))) :
    ∃ G' fp' v, σ[i]? = some (some v) ∧ EnvOk F G' H σ (ρ.set i (some (d, 0))) fp' ∧ RepF F.c G' d v ∧ Adv G H fp G' H fp' := by
  obtain ⟨v, hv, h⟩ := E.sl i d l e
  have E2 := E.drop i
  have E3 := E2.frz (fp i) fun b hb => ⟨(E.ow i b hb).2, fun j => by
    by_cases hj : j = i
    · rw [if_pos hj]; exact fun z => nomatch z
    · rw [if_neg hj]; exact fun z => hj (E.dj j i b z hb)⟩
  have r : RepF F.c (Ev.frz G H (fp i)) d v := h.frz E.le
  have E4 := E3.put' (i := i) (l := 0) (q := []) hv ⟨rfl, r⟩ List.nodup_nil fun _ z => nomatch z
  rw [List.set_set] at E4
  refine ⟨_, _, v, hv, E4, r, frz_same E.le _, fun a o h _ => h, fun a o h => ?_, fun j a h => ?_⟩
  · by_cases ha : a ∈ fp i
    · exact .inr (.inr ⟨i, ha⟩)
    · rw [frz_out ha] at h; exact .inl h
  · by_cases hj : j = i
    · rw [if_pos hj] at h; cases h
    · simp only [if_neg hj] at h
      exact .inr ⟨j, h⟩
/-- slot i's kids frozen -/
theorem EnvOk.frz1 (E : EnvOk F G H σ ρ fp) {i : Nat} {d : D} (e : ρ[i]? = some (some (d, 2))) :
    ∃ G' fp', EnvOk F G' H σ (ρ.set i (some (d, 1))) fp' ∧ Adv G H fp G' H fp' := by
  obtain ⟨v, hv, a, bs, rfl, hf, h⟩ := E.sl i d 2 e
  have nd := E.nd i
  rw [hf] at nd
  have E2 := E.drop i
  have E3 := E2.frz bs fun b hb => ⟨(E.ow i b (by rw [hf]; exact List.mem_cons_of_mem _ hb)).2, fun j => by
    by_cases hj : j = i
    · rw [if_pos hj]; exact fun z => nomatch z
    · rw [if_neg hj]; exact fun z => hj (E.dj j i b z (by rw [hf]; exact List.mem_cons_of_mem _ hb))⟩
  have r := h.frz1 E.le
  have ha : a ∈ fp i := by rw [hf]; exact List.mem_cons_self
  have E4 := E3.put' (i := i) (l := 1) (q := [a]) hv ⟨a, rfl, rfl, r⟩ (by simp) fun b hb => by
    rw [List.mem_singleton] at hb; subst hb
    refine ⟨?_, (E.ow i b ha).2, fun j hj => ?_⟩
    · rw [frz_out (List.nodup_cons.mp nd).1]; exact (E.ow i b ha).1
    · rw [if_neg hj]; exact fun z => hj (E.dj j i b z ha)
  rw [List.set_set] at E4
  refine ⟨_, _, E4, frz_same E.le _, fun a o h _ => h, fun b o h => ?_, fun j b h => ?_⟩
  · by_cases hb : b ∈ bs
    · exact .inr (.inr ⟨i, by rw [hf]; exact List.mem_cons_of_mem _ hb⟩)
    · rw [frz_out hb] at h; exact .inl h
  · by_cases hj : j = i
    · rw [if_pos hj, List.mem_singleton] at h
      subst h; exact .inr ⟨i, ha⟩
    · simp only [if_neg hj] at h
      exact .inr ⟨j, h⟩
/-- the value of slot i is taken out of it -/
theorem EnvOk.move (E : EnvOk F G H σ ρ fp) {i : Nat} {l : Nat} {d : D} (e : ρ[i]? = some (some (d, l))) :
    ∃ fp' v, σ[i]? = some (some v) ∧ EnvOk F G H σ (ρ.set i none) fp' ∧ ResR F H fp G H fp' (d, l) v ∧ Adv G H fp G H fp' := by
  obtain ⟨v, hv, h⟩ := E.sl i d l e
  refine ⟨_, v, hv, E.drop i, ⟨fp i, h, E.nd i, fun b hb => ⟨(E.ow i b hb).1, (E.ow i b hb).2, fun j => ?_, .inr ⟨i, hb⟩⟩⟩, Same.refl _, fun _ _ h _ => h, fun _ _ h => .inl h, fun j b h => ?_⟩
  · show b ∉ (if j = i then [] else fp j)
    by_cases hj : j = i
    · rw [if_pos hj]; exact fun z => nomatch z
    · rw [if_neg hj]; exact fun z => hj (E.dj j i b z hb)
  · by_cases hj : j = i
    · rw [if_pos hj] at h; cases h
    · simp only [if_neg hj] at h
      exact .inr ⟨j, h⟩

/-! ### what a piece of syntax gives -/
/-- an exception: its class -/
def XR (c : Ct) (x : D) (cls : Value) (dd : Option Addr) : Prop := ∃ k fs, x = .ins k fs ∧ cls = .ref (c.ca k)
abbrev WXt := Value → Option Addr → L2.St → Hp → Prop
def OutP (F : Fm) (W : WXt) {α β : Type} (R : RT α β) (σ : L2.St) (Q : β → Hp → Prop) (G H : Hp) (fp : Fps) : Res α → Prop
  | .ok a ρ' => ∀ G' H' fp' v, Adv G H fp G' H' fp' → EnvOk F G' H' σ ρ' fp' → R H fp G' H' fp' a v → Q v H'
  | .exc x ρ' => ∀ G' H' fp' cls dd, Adv G H fp G' H' fp' → EnvOk F G' H' σ ρ' fp' → XR F.c x cls dd → W cls dd σ H'
  | .bad => False
def tP (F : Fm) (W : WXt) {α β : Type} (R : RT α β) (m : Rho → Res α) (σ : L2.St) (H : Hp) (Q : β → Hp → Prop) : Prop :=
  ∃ G ρ fp, EnvOk F G H σ ρ fp ∧ OutP F W R σ Q G H fp (m ρ)
/-- a relation that may look back farther -/
structure Back {α β : Type} (R : RT α β) : Prop where
  back : ∀ {G0 H0 G1 H1 G2 H2 : Hp} {f0 f1 f2 : Fps} {a : α} {v : β}, Adv G0 H0 f0 G1 H1 f1 → R H1 f1 G2 H2 f2 a v → R H0 f0 G2 H2 f2 a v
theorem back_res : Back (ResR F) := by
  refine ⟨?_⟩
  intro G0 H0 G1 H1 G2 H2 f0 f1 f2 a v x ⟨q, h1, h2, h3⟩
  refine ⟨q, h1, h2, fun b hb => ?_⟩
  obtain ⟨a1, a2, a3, a4⟩ := h3 b hb
  refine ⟨a1, a2, a3, ?_⟩
  rcases a4 with e | ⟨i, e⟩
  · by_cases hf : ∃ i, b ∈ f0 i
    · exact .inr hf
    · left
      cases q : H0 b with
      | none => rfl
      | some o => rw [x.kp b o q fun i z => hf ⟨i, z⟩] at e; cases e
  · exact x.ff i b e
theorem OutP.mono {W : WXt} {α β : Type} {R : RT α β} {Q : β → Hp → Prop} {fp' : Fps} (b : Back R) (s : Adv G H fp G' H' fp') : ∀ {r : Res α}, OutP F W R σ Q G H fp r → OutP F W R σ Q G' H' fp' r
  | .ok a ρ', h => fun G1 H1 fp1 v s1 E1 r1 => h G1 H1 fp1 v (s.trans s1) E1 (b.back s r1)
  | .exc x ρ', h => fun G1 H1 fp1 cls dd s1 => h G1 H1 fp1 cls dd (s.trans s1)
  | .bad, h => h
/-- THE GLUE: ma first, then f -/
theorem tP.bind {W : WXt} {α β γ δ : Type} {R : RT α β} {Ra : RT γ δ} (b : Back R) {ma : Rho → Res γ} {f : γ → Rho → Res α} {Q : β → Hp → Prop} {K : δ → Hp → Prop}
    (E : EnvOk F G H σ ρ fp) (h : OutP F W R σ Q G H fp ((ma ρ).bind f))
    (k : ∀ a ρ1 G1 H1 fp1 x, ma ρ = .ok a ρ1 → Adv G H fp G1 H1 fp1 → EnvOk F G1 H1 σ ρ1 fp1 → Ra H fp G1 H1 fp1 a x → OutP F W R σ Q G1 H1 fp1 (f a ρ1) → K x H1) : tP F W Ra ma σ H K := by
  refine ⟨G, ρ, fp, E, ?_⟩
  cases e : ma ρ with
  | ok a ρ1 =>
    rw [e] at h
    exact fun G1 H1 fp1 x s E1 r => k a ρ1 G1 H1 fp1 x e s E1 r (OutP.mono b s h)
  | exc x ρ1 => rw [e] at h; exact h
  | bad => rw [e] at h; exact h
end
end Ev
end
section
set_option Elab.async false
set_option linter.all false
set_option maxRecDepth 100000
set_option maxHeartbeats 4000000
set_option autoImplicit false
namespace Ev
open PySem PySem.Spec PyProof.Rows L2

abbrev LIM : Nat := 16777216
theorem LIM_eq : sizeLine = LIM := sizeLine_eq

/-! ### plain data -/
mutual
def py : D → PyData
  | .non => .none
  | .bl b => .bool b
  | .int i => .int i
  | .str x => .str x
  | .tup ds => .tuple (pys ds)
  | .lst ds => .list (pys ds)
  | .dic _ => .none
  | .fn _ => .none
  | .ins _ _ => .none
  | .scr _ => .none
def pys : List D → List PyData
  | [] => []
  | d :: ds => py d :: pys ds
end
mutual
/-- plain data of at most so many levels -/
def okAt : Nat → D → Bool
  | _, .non => true
  | _, .bl _ => true
  | _, .int _ => true
  | _, .str x => PyData.strOk x
  | 0, .tup _ => false
  | n + 1, .tup ds => okAll n ds
  | 0, .lst _ => false
  | n + 1, .lst ds => okAll n ds
  | _, .dic _ => false
  | _, .fn _ => false
  | _, .ins _ _ => false
  | _, .scr _ => false
def okAll : Nat → List D → Bool
  | _, [] => true
  | n, d :: ds => okAt n d && okAll n ds
end
def okD (d : D) : Bool := okAt 60 d
def eqD (a b : D) : Bool := PyData.eqv (py a) (py b)

/-! ### operators -/
def mulOk (i j : Int) : Bool := (decide (-(2 ^ 64) < i) && decide (i < 2 ^ 64)) || (decide (-(2 ^ 64) < j) && decide (j < 2 ^ 64))
def binD : Operator → D → D → Option (D × Nat)
  | .Add, .int i, .int j => some (.int (i + j), 0)
  | .Add, .str x, .str y => if x.length + y.length ≤ LIM then some (.str (x ++ y), 0) else none
  | .Add, .lst a, .lst b => if a.length + b.length ≤ LIM then some (.lst (a ++ b), 1) else none
  | .Add, .tup a, .tup b => if a.length + b.length ≤ LIM then some (.tup (a ++ b), 0) else none
  | .Sub, .int i, .int j => some (.int (i - j), 0)
  | .Mult, .int i, .int j => if mulOk i j then some (.int (i * j), 0) else none
  | .Mult, .lst a, .int k => if -(2 ^ 63) ≤ k ∧ k < 2 ^ 63 ∧ a.length * k.toNat ≤ LIM then some (.lst (List.replicate k.toNat a).flatten, 1) else none
  | .FloorDiv, .int i, .int j => if 0 < j ∧ j < 1073741824 then some (.int (i / j), 0) else none
  | .Mod, .int i, .int j => if 0 < j then some (.int (i % j), 0) else none
  | .Pow, .int i, .int j => if 0 ≤ j ∧ j ≤ 1000000 ∧ i.natAbs < 2 ^ 64 then some (.int (i ^ j.toNat), 0) else none
  | _, _, _ => none
def inStr (x y : Str) : Bool := !(Builtin.Str.occurrences y x 0 y.length 1).isEmpty
def eqE (a b : D) : Option Bool :=
  match a, b with
  | .str x, .str y => some (decide (x = y))
  | a, b => if okD a && okD b then some (eqD a b) else none
def inD (x : D) : D → Option Bool
  | .str y => match x with
    | .str x => some (inStr x y)
    | _ => none
  | .lst ds => if okD x && okD (.lst ds) then some (ds.any fun z => eqD z x) else none
  | .tup ds => if okD x && okD (.tup ds) then some (ds.any fun z => eqD z x) else none
  | _ => none
def isInts : List D → Option (List Int)
  | [] => some []
  | .int i :: ds => (isInts ds).map (i :: ·)
  | _ :: _ => none
def cmpD : CmpOp → D → D → Option Bool
  | .Eq, a, b => eqE a b
  | .NotEq, a, b => (eqE a b).map (!·)
  | .Lt, .int i, .int j => some (decide (i < j))
  | .Lt, .str x, .str y => some (decide (x.cps.toList < y.cps.toList))
  | .Lt, .tup a, .tup b => match isInts a, isInts b with
    | some ns, some ms => some (HT.lexLt ns ms)
    | _, _ => none
  | .LtE, .int i, .int j => some (decide (i ≤ j))
  | .Gt, .int i, .int j => some (decide (j < i))
  | .GtE, .int i, .int j => some (decide (j ≤ i))
  | .In, a, b => inD a b
  | .NotIn, a, b => (inD a b).map (!·)
  | .Is, a, .non => some (match a with | .non => true | _ => false)
  | .IsNot, a, .non => some (match a with | .non => false | _ => true)
  | .Is, a, .bl b => some (match a with | .bl c => decide (c = b) | _ => false)
  | .IsNot, a, .bl b => some (match a with | .bl c => !decide (c = b) | _ => true)
  | _, _, _ => none
def truD : D → Option Bool
  | .non => some false
  | .bl b => some b
  | .int i => some (i != 0)
  | .str y => if y.length ≤ LIM then some ((y.length : Int) != 0) else none
  | .lst ds => some (!ds.isEmpty)
  | .tup ds => some (!ds.isEmpty)
  | _ => none
def negD : D → Option (D × Nat)
  | .int i => some (.int (-i), 0)
  | _ => none

/-! ### items, slices -/
def sgn1 (c : Nat) : D := .str ⟨#[c]⟩
def ixD : D → D → Option (D × Nat)
  | .lst ds, .int i => (atI ds i).map fun d => (d, 0)
  | .tup ds, .int i => (atI ds i).map fun d => (d, 0)
  | .str x, .int i => if x.length ≤ LIM then (atI x.cps.toList i).map fun c => (sgn1 c, 0) else none
  | _, _ => none
def cutL {α : Type} (xs : List α) (lo hi : Option Int) : List α := (xs.drop (HT.sIx xs.length 0 lo)).take (HT.sIx xs.length xs.length hi - HT.sIx xs.length 0 lo)
def slcD : D → Option Int → Option Int → Option (D × Nat)
  | .lst ds, lo, hi => some (.lst (cutL ds lo hi), 1)
  | .tup ds, lo, hi => some (.tup (cutL ds lo hi), 0)
  | .str x, lo, hi => if x.length ≤ LIM then some (.str ⟨(cutL x.cps.toList lo hi).toArray⟩, 0) else none
  | .scr ns, lo, hi => some (.lst (cutL (ns.map D.int) lo hi), 1)
  | _, _, _ => none
def revD : D → Option (D × Nat)
  | .lst ds => some (.lst ds.reverse, 1)
  | .tup ds => some (.tup ds.reverse, 0)
  | _ => none

/-! ### built-in functions by values -/
inductive Blt where
  | len | abs | int | str | bool | sum | max | min | sorted | list | tuple | all | any | repr | dict | lenset | sortset
  deriving DecidableEq, Inhabited
def isStrs : List D → Option (List Str)
  | [] => some []
  | .str i :: ds => (isStrs ds).map (i :: ·)
  | _ :: _ => none
def isBls : List D → Option (List Bool)
  | [] => some []
  | .bl i :: ds => (isBls ds).map (i :: ·)
  | _ :: _ => none
def maxI : List Int → Int → Int
  | [], m => m
  | i :: r, m => maxI r (if i > m then i else m)
def minI : List Int → Int → Int
  | [], m => m
  | i :: r, m => minI r (if i < m then i else m)
def leStr (x y : Str) : Bool := !decide (y.cps.toList < x.cps.toList)
def sortI (ns : List Int) : List Int := ns.mergeSort fun a b => decide (a ≤ b)
def sortS (ns : List Str) : List Str := ns.mergeSort leStr
def lenD : D → Option (D × Nat)
  | .lst ds => some (.int ds.length, 0)
  | .tup ds => some (.int ds.length, 0)
  | .str x => if x.length ≤ LIM then some (.int x.length, 0) else none
  | _ => none
def absD : D → Option (D × Nat)
  | .int i => some (.int (if i < 0 then -i else i), 0)
  | _ => none
def intD : D → Option (D × Nat)
  | .int i => some (.int i, 0)
  | .bl b => some (.int (if b then 1 else 0), 0)
  | .str x => match PySem.intText? x with
    | some n => if x.length ≤ 640 then some (.int n, 0) else none
    | none => none
  | _ => none
def strD : D → Option (D × Nat)
  | .int i => if i.natAbs.log2 < 1920 then some (.str (toString i), 0) else none
  | _ => none
def sumD : D → Option (D × Nat)
  | .lst ds => (isInts ds).map fun ns => (.int ns.sum, 0)
  | _ => none
def maxD : D → Option (D × Nat)
  | .lst ds => match isInts ds with
    | some (n :: ns) => some (.int (maxI ns n), 0)
    | _ => none
  | _ => none
def minD : D → Option (D × Nat)
  | .lst ds => match isInts ds with
    | some (n :: ns) => some (.int (minI ns n), 0)
    | _ => none
  | _ => none
def allD : D → Option (D × Nat)
  | .lst ds => (isBls ds).map fun bs => (.bl (bs.all id), 0)
  | _ => none
def anyD : D → Option (D × Nat)
  | .lst ds => (isBls ds).map fun bs => (.bl (bs.any id), 0)
  | _ => none
def listD : D → Option (D × Nat)
  | .lst ds => some (.lst ds, 1)
  | .tup ds => some (.lst ds, 1)
  | .str x => if x.length ≤ LIM then some (.lst (x.cps.toList.map sgn1), 1) else none
  | _ => none
/-- repr of plain data -/
def reprD (d : D) : Option (D × Nat) := if okD d && (py d).showable && decide ((py d).shown.length ≤ LIM) then some (.str (py d).shown, 0) else none
def tupleD : D → Option (D × Nat)
  | .lst ds => some (.tup ds, 0)
  | .tup ds => some (.tup ds, 0)
  | _ => none
def sortedD : D → Option (D × Nat)
  | .lst ds => match isInts ds with
    | some ns => some (.lst ((sortI ns).map D.int), 1)
    | none => none
  | _ => none
def blt1 : Blt → D → Option (D × Nat)
  | .len => lenD
  | .abs => absD
  | .int => intD
  | .str => strD
  | .bool => fun _ => none
  | .sum => sumD
  | .max => maxD
  | .min => minD
  | .sorted => sortedD
  | .list => listD
  | .tuple => tupleD
  | .all => allD
  | .any => anyD
  | .repr => reprD
  | .dict => fun _ => none
  | .lenset => fun _ => none
  | .sortset => fun _ => none
def blt2 : Blt → D → D → Option (D × Nat)
  | .max, .int i, .int j => some (.int (if j > i then j else i), 0)
  | .min, .int i, .int j => some (.int (if j < i then j else i), 0)
  | _, _, _ => none
def bltD (b : Blt) : List D → Option (D × Nat)
  | [x] => blt1 b x
  | [x, y] => blt2 b x y
  | _ => none

/-! ### methods that change nothing -/
inductive Mth where
  | index | count | join | split | get
  deriving DecidableEq, Inhabited
def indexD : D → D → Option (D × Nat)
  | .lst ds, x => if okD (.lst ds) && okD x then (ds.findIdx? fun z => eqD z x).map fun (j : Nat) => (D.int (j : Int), 0) else none
  | _, _ => none
def joinD : D → D → Option (D × Nat)
  | .str s, .lst ds => match isStrs ds with
    | some xs => if (xs.map fun x => x.length + s.length).sum ≤ LIM then some (.str (Txt.join s xs), 0) else none
    | none => none
  | _, _ => none
def mthD : Mth → D → List D → Option (D × Nat)
  | .index, d, [x] => indexD d x
  | .join, d, [x] => joinD d x
  | _, _, _ => none

def mthL (m : Mth) : List D → Option (D × Nat)
  | d :: es => mthD m d es
  | [] => none
def mthOk : Mth → Option D → Bool
  | .index, some (.lst _) => true
  | .join, some (.str _) => true
  | _, _ => false

/-! ### methods that change their list -/
inductive Mut where
  | append | extend | insert | pop | popAt | setdefault
  deriving DecidableEq, Inhabited
/-- the answer, the list behind it -/
def appendD : D → D → Option (D × D)
  | .lst ds, x => if ds.length < LIM then some (.non, .lst (ds ++ [x])) else none
  | _, _ => none
def extendD : D → D → Option (D × D)
  | .lst ds, .lst es => if ds.length + es.length ≤ LIM then some (.non, .lst (ds ++ es)) else none
  | _, _ => none
def popD : D → Option (D × D)
  | .lst ds => (ds[ds.length - 1]?).map fun x => (x, .lst ds.dropLast)
  | _ => none
def popAtD : D → D → Option (D × D)
  | .lst ds, .int i => if -(2 ^ 63) ≤ i ∧ i < 2 ^ 63 then
      match seqIndex? i ds.length with
      | some k => (ds[k]?).map fun x => (x, .lst (ds.eraseIdx k))
      | none => none
    else none
  | _, _ => none
def insertD : D → D → D → Option (D × D)
  | .lst ds, .int i, x => if 0 ≤ i ∧ i ≤ ds.length ∧ ds.length < LIM then some (.non, .lst (ds.take i.toNat ++ x :: ds.drop i.toNat)) else none
  | _, _, _ => none
def mutD : Mut → D → List D → Option (D × D)
  | .append, d, [x] => appendD d x
  | .extend, d, [x] => extendD d x
  | .pop, d, [] => popD d
  | .popAt, d, [x] => popAtD d x
  | .insert, d, [x, y] => insertD d x y
  | _, _, _ => none
def setD : D → D → D → Option D
  | .lst ds, .int i, x => (ixN ds.length i).map fun j => .lst (ds.set j x)
  | _, _, _ => none

/-! ### isinstance -/
inductive Ty where
  | int | bool | str | tuple | list
  deriving DecidableEq, Inhabited
def isTy : Ty → D → Option Bool
  | _, .fn _ => none
  | _, .ins _ _ => none
  | _, .scr _ => none
  | _, .dic _ => none
  | .int, .int _ => some true
  | .int, .bl _ => some true
  | .bool, .bl _ => some true
  | .str, .str _ => some true
  | .tuple, .tup _ => some true
  | .list, .lst _ => some true
  | _, _ => some false

/-! ### fields -/
def fldD (x : Str) : D → Option (D × Nat)
  | .ins _ fs => (fs.lookup x).map fun d => (d, 0)
  | _ => none
def putD (x : Str) (d : D) : List (Str × D) → List (Str × D)
  | [] => [(x, d)]
  | (y, e) :: fs => if x = y then (y, d) :: fs else (y, e) :: putD x d fs

/-! ### the small syntax -/
inductive CT where
  | nm (i : Nat)
  | tp (ts : CT)
  | nil
  | cons (t ts : CT)
  deriving Inhabited
inductive CE where
  | var (i : Nat) | non | bl (b : Bool) | int (i : Int) | str (x : Str) | con (x : Str) | fnv (j : Nat)
  | bin (op : Operator) (a b : CE) | neg (a : CE) | not (a : CE) | and (a b : CE) | or (a b : CE)
  | cmp (op : CmpOp) (a b : CE) | chn (o1 o2 : CmpOp) (a b c : CE)
  | ife (t a b : CE)
  | tup (as : CE) | lst (as : CE) | nil | cons (a as : CE)
  | ix (a i : CE) | slc (a lo hi : CE) | rev (a : CE)
  | call (j : Nat) (as : CE) | cav (i : Nat) (as : CE)
  | blt (b : Blt) (as : CE)
  | mth (m : Mth) (a as : CE)
  | mut (m : Mut) (i : Nat) (as : CE)
  | fld (a : CE) (x : Str)
  | omt (k : Nat) (m : Str) (j : Nat) (i : Nat) (as : CE)
  | mk (k j : Nat) (as : CE)
  | isn (a : CE) (t : Ty)
  | lc (own : List Nat) (t : CT) (it ifs e : CE)
  | rg1 (a : CE) | rg2 (a b : CE) | enm (a : CE) | zip (a b : CE) | its (a : CE)
  | lrg (a : CE)
  | dnw
  deriving Inhabited
inductive CS where
  | nil | seq (a b : CS) | pass | ex (e : CE) | asg (t : CT) (e : CE) | par (ts : List Nat) (as : CE) | aug (i : Nat) (op : Operator) (e : CE)
  | set (i : Nat) (ix e : CE) | sau (i : Nat) (ix : CE) (op : Operator) (e : CE) | fst (i : Nat) (x : Str) (e : CE) | fau (i : Nat) (x : Str) (op : Operator) (e : CE)
  | ret (e : CE) | retN | ite (t : CE) (a b : CS) | for_ (t : CT) (it : CE) (b : CS) | while_ (t : CE) (b : CS) | brk | cont | raise (k : Nat) (as : CE)
  | try_ (b : CS) (k : Nat) (h : CS)
  deriving Inhabited

/-! ### calls -/
inductive FR where
  | ok (d : D) (l : Nat) (outs : List Slt)
  | exc (x : D) (outs : List Slt)
  | bad
  deriving Inhabited
structure Tb where
  n : Nat
  run : Nat → List D → FR
  io : Nat → List Bool
  con : Str → D

inductive Opd where
  | v (d : D)
  | s (i : Nat)
def lift {α : Type} (o : Option α) (ρ : Rho) : Res α := match o with
  | some a => .ok a ρ
  | none => .bad
def noexc {α : Type} : Res α → Res α
  | .exc _ _ => .bad
  | r => r
def rdO (ρ : Rho) : Opd → Option D
  | .v d => some d
  | .s i => match ρ[i]? with
    | some (some (d, 1)) => some d
    | _ => none
def rdOs (ρ : Rho) : List Opd → Option (List D)
  | [] => some []
  | o :: os => match rdO ρ o, rdOs ρ os with
    | some d, some ds => some (d :: ds)
    | _, _ => none
/-- a name read as a value -/
def varF (i : Nat) (ρ : Rho) : Res (D × Nat) := match ρ[i]? with
  | some (some (d, _)) => .ok (d, 0) (ρ.set i (some (d, 0)))
  | _ => .bad
/-- a name read as an operand -/
def varO (i : Nat) (ρ : Rho) : Res Opd := match ρ[i]? with
  | some (some (d, 0)) => .ok (.v d) ρ
  | some (some (d, 1)) => .ok (.s i) ρ
  | some (some (d, 2)) => .ok (.s i) (ρ.set i (some (d, 1)))
  | _ => .bad
def frzV (r : Res (D × Nat)) : Res Opd := r.bind fun p ρ => .ok (.v p.1) ρ
def opd (e : CE) (f : Rho → Res (D × Nat)) (ρ : Rho) : Res Opd := match e with
  | .var i => varO i ρ
  | _ => frzV (f ρ)
def tstO (o : Opd) (ρ : Rho) : Res Bool := match rdO ρ o with
  | some d => lift (truD d) ρ
  | none => .bad
def bltO (f : List D → Option (D × Nat)) (os : List Opd) (ρ : Rho) : Res (D × Nat) := match rdOs ρ os with
  | some ds => lift (f ds) ρ
  | none => .bad
def val2 (f : D → D → Option (D × Nat)) : List D → Option (D × Nat)
  | [a, b] => f a b
  | _ => none
def val1 (f : D → Option (D × Nat)) : List D → Option (D × Nat)
  | [a] => f a
  | _ => none
def bool0 (o : Option Bool) : Option (D × Nat) := o.map fun b => (.bl b, 0)

/-- the slots of the parameters that a callee changes are given what they hold now -/
def putBack : List Bool → List Opd → List Slt → Rho → Option Rho
  | [], [], _, ρ => some ρ
  | false :: bs, _ :: os, _ :: xs, ρ => putBack bs os xs ρ
  | true :: bs, .s i :: os, some x :: xs, ρ => putBack bs os xs (ρ.set i (some x))
  | _, _, _, _ => none
/-- the operands of a call fit: own slots, all unlike, just where the callee changes them -/
def fitIo : List Bool → List Opd → List Nat → Bool
  | [], [], _ => true
  | false :: bs, .v _ :: os, us => fitIo bs os us
  | true :: bs, .s i :: os, us => !us.contains i && fitIo bs os (i :: us)
  | _, _, _ => false
def callR (T : Tb) (j : Nat) (os : List Opd) (ρ : Rho) : Res (D × Nat) :=
  if fitIo (T.io j) os [] then
    match rdOs ρ os with
    | some ds => match T.run j ds with
      | .ok d l outs => match putBack (T.io j) os outs ρ with
        | some ρ' => .ok (d, l) ρ'
        | none => .bad
      | .exc x outs => match putBack (T.io j) os outs ρ with
        | some ρ' => .exc x ρ'
        | none => .bad
      | .bad => .bad
    | none => .bad
  else .bad

/-! ### targets, items -/
mutual
def bindT (ps : List Nat) : CT → D → Rho → Option Rho
  | .nm i, d, ρ => if i < ρ.length ∧ ps.contains i = false then some (ρ.set i (some (d, 0))) else none
  | .tp ts, .tup ds, ρ => bindTs ps ts ds ρ
  | .tp ts, .lst ds, ρ => bindTs ps ts ds ρ
  | _, _, _ => none
def bindTs (ps : List Nat) : CT → List D → Rho → Option Rho
  | .nil, [], ρ => some ρ
  | .cons t ts, d :: ds, ρ => match bindT ps t d ρ with
    | some ρ1 => bindTs ps ts ds ρ1
    | none => none
  | _, _, _ => none
end
def wipeR (ρ : Rho) : List Nat → Rho
  | [] => ρ
  | i :: is => (wipeR ρ is).set i none
/-- the slots of the own names as they were, if frozen -/
def backR (ρ0 ρ : Rho) : List Nat → Rho
  | [] => ρ
  | i :: is => (backR ρ0 ρ is).set i (match ρ0[i]? with
    | some (some (d, 0)) => some (d, 0)
    | _ => none)
def seqItems : D → Option (List D)
  | .lst ds => some ds
  | .tup ds => some ds
  | .str x => some (x.cps.toList.map sgn1)
  | _ => none
def rangeD (lo : Int) (n : Nat) : List D := (List.range n).map fun (k : Nat) => D.int (lo + (k : Int))
def zipD : List D → List D → List D
  | a :: as, b :: bs => .tup [a, b] :: zipD as bs
  | _, _ => []
def enumD : Int → List D → List D
  | _, [] => []
  | k, a :: as => .tup [.int k, a] :: enumD (k + 1) as
def compLoop (own : List Nat) (bd : D → Rho → Option Rho) (t : Rho → Res Bool) (f : Rho → Res (D × Nat)) : List D → Rho → List D → Res (List D)
  | [], ρ, acc => .ok acc ρ
  | d :: ds, ρ, acc => match bd d (wipeR ρ own) with
    | none => .bad
    | some ρ1 => (t ρ1).bind fun b ρ2 => if b then (f ρ2).bind fun x ρ3 => if acc.length < LIM then compLoop own bd t f ds ρ3 (acc ++ [x.1]) else .bad else compLoop own bd t f ds ρ2 acc
def optI : D → Option (Option Int)
  | .int i => some (some i)
  | _ => none
def idxI (n : Nat) : Option (List D) := if (n : Int) < 2 ^ 62 then some (rangeD 0 n) else none

/-- slot i holds an own list -/
def mutOk (i : Nat) (ρ : Rho) : Bool := match ρ[i]? with
  | some (some (.lst _, 1)) => true
  | _ => false
/-- slot i holds an own instance -/
def insOk (k : Nat) (m : Str) (i : Nat) (ρ : Rho) : Bool := match ρ[i]? with
  | some (some (.ins k' fs, 1)) => k' == k && (fs.lookup m).isNone
  | _ => false
/-- a new instance, made -/
def mkO (n : Nat) : Res (D × Nat) → Res (D × Nat)
  | .ok (.non, 0) ρ => match ρ[n]? with
    | some (some (d, 1)) => .ok (d, 1) (ρ.take n)
    | _ => .bad
  | _ => .bad
def mutR (m : Mut) (i : Nat) (ds : List (D × Nat)) (ρ : Rho) : Res (D × Nat) := match ρ[i]? with
  | some (some (d, 1)) => match mutD m d (ds.map (·.1)) with
    | some (r, d') => .ok (r, 0) (ρ.set i (some (d', 1)))
    | none => .bad
  | _ => .bad
structure EvR where
  f : Rho → Res (D × Nat)
  t : Rho → Res Bool
  o : Rho → Res Opd
  ao : Rho → Res (List Opd)
  ca : List Bool → Rho → Res (List Opd)
  al : Rho → Res (List (D × Nat))
  it : Rho → Res (List D)
  sl : Rho → Res (Option Int)
def defaultT (o : Rho → Res Opd) (ρ : Rho) : Res Bool := (o ρ).bind tstO
def mkR (e : CE) (f : Rho → Res (D × Nat)) : EvR where
  f := f
  t := fun ρ => (opd e f ρ).bind tstO
  o := opd e f
  ao := fun _ => .bad
  ca := fun _ _ => .bad
  al := fun _ => .bad
  it := fun ρ => (f ρ).bind fun p ρ1 => lift (seqItems p.1) ρ1
  sl := fun ρ => (f ρ).bind fun p ρ1 => lift (optI p.1) ρ1
def noF : Rho → Res (D × Nat) := fun _ => .bad
def pureF (d : D) : Rho → Res (D × Nat) := fun ρ => .ok (d, 0) ρ

def consR (x xs : EvR) : EvR where
  f := noF
  t := fun _ => .bad
  o := fun _ => .bad
  ao := fun ρ => (x.o ρ).bind fun a ρ1 => (xs.ao ρ1).bind fun as ρ2 => .ok (a :: as) ρ2
  ca := fun bs ρ => match bs with
    | true :: bs => (x.o ρ).bind fun a ρ1 => (xs.ca bs ρ1).bind fun as ρ2 => .ok (a :: as) ρ2
    | false :: bs => (frzV (x.f ρ)).bind fun a ρ1 => (xs.ca bs ρ1).bind fun as ρ2 => .ok (a :: as) ρ2
    | [] => .bad
  al := fun ρ => (x.f ρ).bind fun a ρ1 => (xs.al ρ1).bind fun as ρ2 => .ok (a :: as) ρ2
  it := fun _ => .bad
  sl := fun _ => .bad
def ifsT : CE → (Rho → Res Bool) → Rho → Res Bool
  | .nil, _, ρ => .ok true ρ
  | _, t, ρ => t ρ
def ev (T : Tb) (ps : List Nat) : CE → EvR
  | .var i => mkR (.var i) (varF i)
  | .non => mkR .non (pureF .non)
  | .bl b => mkR (.bl b) (pureF (.bl b))
  | .int i => mkR (.int i) (pureF (.int i))
  | .str x => mkR (.str x) (pureF (.str x))
  | .con x => mkR (.con x) (pureF (T.con x))
  | .fnv j => mkR (.fnv j) (pureF (.fn j))
  | .bin op a b => mkR (.bin op a b) fun ρ => ((ev T ps a).o ρ).bind fun x ρ1 => ((ev T ps b).o ρ1).bind fun y ρ2 => bltO (val2 (binD op)) [x, y] ρ2
  | .neg a => mkR (.neg a) fun ρ => ((ev T ps a).o ρ).bind fun x ρ1 => bltO (val1 negD) [x] ρ1
  | .not a => { mkR (.not a) (fun ρ => ((ev T ps a).f ρ).bind fun x ρ1 => match x.1 with
      | .bl c => .ok (.bl (!c), 0) ρ1
      | _ => .bad) with
      t := fun ρ => ((ev T ps a).t ρ).bind fun c ρ1 => .ok (!c) ρ1 }
  | .and a b => { mkR (.and a b) (fun ρ => ((ev T ps a).f ρ).bind fun x ρ1 => match x.1 with
      | .bl true => (ev T ps b).f ρ1
      | .bl false => .ok (.bl false, 0) ρ1
      | _ => .bad) with
      t := fun ρ => ((ev T ps a).t ρ).bind fun c ρ1 => if c then (ev T ps b).t ρ1 else .ok false ρ1 }
  | .or a b => { mkR (.or a b) (fun ρ => ((ev T ps a).f ρ).bind fun x ρ1 => match x.1 with
      | .bl false => (ev T ps b).f ρ1
      | .bl true => .ok (.bl true, 0) ρ1
      | _ => .bad) with
      t := fun ρ => ((ev T ps a).t ρ).bind fun c ρ1 => if c then .ok true ρ1 else (ev T ps b).t ρ1 }
  | .cmp op a b => mkR (.cmp op a b) fun ρ => ((ev T ps a).o ρ).bind fun x ρ1 => ((ev T ps b).o ρ1).bind fun y ρ2 => bltO (val2 fun p q => bool0 (cmpD op p q)) [x, y] ρ2
  | .chn o1 o2 a b c => mkR (.chn o1 o2 a b c) fun ρ => ((ev T ps a).o ρ).bind fun x ρ1 => (frzV ((ev T ps b).f ρ1)).bind fun y ρ2 => (bltO (val2 fun p q => bool0 (cmpD o1 p q)) [x, y] ρ2).bind fun z ρ3 => match z.1 with
      | .bl true => ((ev T ps c).o ρ3).bind fun w ρ4 => bltO (val2 fun p q => bool0 (cmpD o2 p q)) [y, w] ρ4
      | .bl false => .ok (.bl false, 0) ρ3
      | _ => .bad
  | .ife t a b => { mkR (.ife t a b) (fun ρ => ((ev T ps t).t ρ).bind fun c ρ1 => if c then (ev T ps a).f ρ1 else (ev T ps b).f ρ1) with
      t := fun _ => .bad }
  | .tup as => mkR (.tup as) fun ρ => ((ev T ps as).al ρ).bind fun ds ρ1 => if ds.length ≤ LIM then .ok (.tup (ds.map (·.1)), 0) ρ1 else .bad
  | .lst as => mkR (.lst as) fun ρ => ((ev T ps as).al ρ).bind fun ds ρ1 => if ds.length ≤ LIM then .ok (.lst (ds.map (·.1)), 1) ρ1 else .bad
  | .nil => { f := noF, t := fun _ => .bad, o := fun _ => .bad, ao := fun ρ => .ok [] ρ, ca := fun bs ρ => (match bs with
    | [] => .ok [] ρ
    | _ :: _ => .bad), al := fun ρ => .ok [] ρ, it := fun _ => .bad, sl := fun ρ => .ok none ρ }
  | .cons a as => consR (ev T ps a) (ev T ps as)
  | .ix a i => mkR (.ix a i) fun ρ => ((ev T ps a).o ρ).bind fun x ρ1 => ((ev T ps i).o ρ1).bind fun y ρ2 => bltO (val2 ixD) [x, y] ρ2
  | .slc a lo hi => mkR (.slc a lo hi) fun ρ => ((ev T ps a).o ρ).bind fun x ρ1 => ((ev T ps lo).sl ρ1).bind fun l ρ2 => ((ev T ps hi).sl ρ2).bind fun h ρ3 => bltO (val1 fun d => slcD d l h) [x] ρ3
  | .rev a => mkR (.rev a) fun ρ => ((ev T ps a).o ρ).bind fun x ρ1 => bltO (val1 revD) [x] ρ1
  | .call j as => mkR (.call j as) fun ρ => ((ev T ps as).ca (T.io j) ρ).bind fun os ρ1 => callR T j os ρ1
  | .cav i as => mkR (.cav i as) fun ρ => match ρ[i]? with
      | some (some (.fn j, 0)) => if j < T.n then ((ev T ps as).ca (T.io j) ρ).bind fun os ρ1 => callR T j os ρ1 else .bad
      | _ => .bad
  | .blt b as => mkR (.blt b as) fun ρ => ((ev T ps as).ao ρ).bind fun os ρ1 => bltO (bltD b) os ρ1
  | .mth m a as => mkR (.mth m a as) fun ρ => ((ev T ps a).o ρ).bind fun x ρ1 => if mthOk m (rdO ρ1 x) then ((ev T ps as).ao ρ1).bind fun os ρ2 => bltO (mthL m) (x :: os) ρ2 else .bad
  | .mut m i as => mkR (.mut m i as) fun ρ => (varO i ρ).bind fun x ρ0 => if mutOk i ρ0 then ((ev T ps as).al ρ0).bind fun ds ρ1 => mutR m i ds ρ1 else .bad
  | .fld a x => mkR (.fld a x) fun ρ => ((ev T ps a).o ρ).bind fun o ρ1 => bltO (val1 (fldD x)) [o] ρ1
  | .omt k m j i as => mkR (.omt k m j i as) fun ρ => (varO i ρ).bind fun x ρ0 => if insOk k m i ρ0 then ((ev T ps as).ca (T.io j).tail ρ0).bind fun os ρ1 => callR T j (x :: os) ρ1 else .bad
  | .mk k j as => mkR (.mk k j as) fun ρ => ((ev T ps as).al ρ).bind fun ds ρ1 => mkO ρ1.length (callR T j (.s ρ1.length :: ds.map fun p => .v p.1) (ρ1 ++ [some (.ins k [], 1)]))
  | .isn a t => mkR (.isn a t) fun ρ => ((ev T ps a).o ρ).bind fun x ρ1 => bltO (val1 fun d => bool0 (isTy t d)) [x] ρ1
  | .lc own t it ifs e => mkR (.lc own t it ifs e) fun ρ => ((ev T ps it).it ρ).bind fun ds ρ1 =>
      (noexc (compLoop own (bindT ps t) (ifsT ifs (ev T ps ifs).t) (ev T ps e).f ds ρ1 [])).bind fun xs ρ2 => .ok (.lst xs, 1) (backR ρ1 ρ2 own)
  | .rg1 a => { mkR (.rg1 a) noF with it := fun ρ => ((ev T ps a).f ρ).bind fun p ρ1 => match p.1 with
      | .int j => if -(2 ^ 62) ≤ j ∧ j < 2 ^ 62 then .ok (rangeD 0 j.toNat) ρ1 else .bad
      | _ => .bad }
  | .rg2 a b => { mkR (.rg2 a b) noF with it := fun ρ => ((ev T ps a).f ρ).bind fun p ρ1 => ((ev T ps b).f ρ1).bind fun q ρ2 => match p.1, q.1 with
      | .int i, .int j => if -(2 ^ 62) ≤ i ∧ i < 2 ^ 62 ∧ -(2 ^ 62) ≤ j ∧ j < 2 ^ 62 then .ok (rangeD i (j - i).toNat) ρ2 else .bad
      | _, _ => .bad }
  | .enm a => { mkR (.enm a) noF with it := fun ρ => ((ev T ps a).f ρ).bind fun p ρ1 => match p.1 with
      | .lst ds => .ok (enumD 0 ds) ρ1
      | .str x => .ok (enumD 0 (x.cps.toList.map sgn1)) ρ1
      | _ => .bad }
  | .zip a b => { mkR (.zip a b) noF with it := fun ρ => ((ev T ps a).f ρ).bind fun p ρ1 => ((ev T ps b).f ρ1).bind fun q ρ2 => match p.1, q.1 with
      | .lst ds, .lst es => .ok (zipD ds es) ρ2
      | .tup ds, .tup es => .ok (zipD ds es) ρ2
      | _, _ => .bad }
  | .its a => { mkR (.its a) noF with it := fun _ => .bad }
  | .lrg a => mkR (.lrg a) fun ρ => ((ev T ps a).f ρ).bind fun p ρ1 => match p.1 with
      | .int j => if -(2 ^ 62) ≤ j ∧ j ≤ LIM then .ok (.lst (rangeD 0 j.toNat), 1) ρ1 else .bad
      | _ => .bad
  | .dnw => mkR .dnw fun ρ => .ok (.dic [], 2) ρ

/-! ### statements -/
inductive SR where
  | nx (ρ : Rho) | rt (d : D) (l : Nat) (ρ : Rho) | bk (ρ : Rho) | ct (ρ : Rho) | exc (x : D) (ρ : Rho) | bad
def Res.then {α : Type} (r : Res α) (f : α → Rho → SR) : SR := match r with
  | .ok a ρ => f a ρ
  | .exc x ρ => .exc x ρ
  | .bad => .bad
def SR.seq (r : SR) (f : Rho → SR) : SR := match r with
  | .nx ρ => f ρ
  | r => r
def noexcS : SR → SR
  | .exc _ _ => .bad
  | r => r
def forLoop (bd : D → Rho → Option Rho) (f : Rho → SR) : List D → Rho → SR
  | [], ρ => .nx ρ
  | d :: ds, ρ => match bd d ρ with
    | none => .bad
    | some ρ1 => match f ρ1 with
      | .nx ρ2 => forLoop bd f ds ρ2
      | .ct ρ2 => forLoop bd f ds ρ2
      | .bk ρ2 => .nx ρ2
      | r => r
def whileLoop (t : Rho → Res Bool) (f : Rho → SR) : Nat → Rho → SR
  | 0, _ => .bad
  | n + 1, ρ => (t ρ).then fun c ρ1 => if c then match f ρ1 with
      | .nx ρ2 => whileLoop t f n ρ2
      | .ct ρ2 => whileLoop t f n ρ2
      | .bk ρ2 => .nx ρ2
      | r => r
    else .nx ρ1
def whileFuel : Nat := 1000000
/-- a value stored: a name keeps what it is given, own or not -/
def asgT (ps : List Nat) : CT → D × Nat → Rho → SR
  | .nm i, p, ρ => if i < ρ.length ∧ ps.contains i = false then .nx (ρ.set i (some p)) else .bad
  | t, p, ρ => match bindT ps t p.1 ρ with
    | some ρ' => .nx ρ'
    | none => .bad
def parT (ps : List Nat) : List Nat → List (D × Nat) → Rho → Option Rho
  | [], [], ρ => some ρ
  | i :: is, x :: xs, ρ => if i < ρ.length ∧ ps.contains i = false ∧ is.contains i = false then parT ps is xs (ρ.set i (some x)) else none
  | _, _, _ => none
def setO (i : Nat) (k x : D) (ρ : Rho) : SR := match ρ[i]? with
  | some (some (d, 1)) => match setD d k x with
    | some d' => .nx (ρ.set i (some (d', 1)))
    | none => .bad
  | _ => .bad
def fsetO (i : Nat) (f : Str) (x : D) (ρ : Rho) : SR := match ρ[i]? with
  | some (some (.ins k fs, 1)) => if fs.length < 1000 then .nx (ρ.set i (some (.ins k (putD f x fs), 1))) else .bad
  | _ => .bad
/-- a op= b of numbers -/
def ipD : Operator → D → D → Option D
  | .Add, .int a, .int b => some (.int (a + b))
  | .Sub, .int a, .int b => some (.int (a - b))
  | _, _, _ => none
def clsOk (i k : Nat) (ρ : Rho) : Bool := match ρ[i]? with
  | some (some (.ins k' _, 1)) => k' == k
  | _ => false
def getO (i : Nat) (k : D) (ρ : Rho) : Option D := match ρ[i]?, k with
  | some (some (.lst ds, 1)), .int j => atI ds j
  | _, _ => none
def retV (e : CE) (f : Rho → Res (D × Nat)) (ρ : Rho) : SR := match e with
  | .var i => match ρ[i]? with
    | some (some (d, l)) => .rt d l (ρ.set i none)
    | _ => .bad
  | _ => (f ρ).then fun p ρ1 => .rt p.1 p.2 ρ1

def evS (T : Tb) (ps : List Nat) : CS → Rho → SR
  | .nil, ρ => .nx ρ
  | .seq a b, ρ => (evS T ps a ρ).seq (evS T ps b)
  | .pass, ρ => .nx ρ
  | .ex e, ρ => ((ev T ps e).f ρ).then fun _ ρ1 => .nx ρ1
  | .asg t e, ρ => ((ev T ps e).f ρ).then fun p ρ1 => asgT ps t p ρ1
  | .par ts as, ρ => ((ev T ps as).al ρ).then fun xs ρ1 => match parT ps ts xs ρ1 with
      | some ρ2 => .nx ρ2
      | none => .bad
  | .aug i op e, ρ => match ρ[i]? with
      | some (some (x, 0)) => ((ev T ps e).f ρ).then fun p ρ1 => match ipD op x p.1 with
        | some r => asgT ps (.nm i) (r, 0) ρ1
        | none => .bad
      | _ => .bad
  | .set i k e, ρ => ((ev T ps e).f ρ).then fun p ρ1 => (varO i ρ1).then fun _ ρ2 => if mutOk i ρ2 then ((ev T ps k).f ρ2).then fun q ρ3 => setO i q.1 p.1 ρ3 else .bad
  | .sau i k op e, ρ => (varO i ρ).then fun _ ρ1 => if mutOk i ρ1 then ((ev T ps k).f ρ1).then fun q ρ2 => match getO i q.1 ρ2 with
      | some old => ((ev T ps e).f ρ2).then fun p ρ3 => match ipD op old p.1 with
        | some r => setO i q.1 r ρ3
        | none => .bad
      | none => .bad else .bad
  | .fst i f e, ρ => ((ev T ps e).f ρ).then fun p ρ1 => (varO i ρ1).then fun _ ρ2 => fsetO i f p.1 ρ2
  | .fau i f op e, ρ => match ρ[i]? with
      | some (some (.ins k fs, 1)) => match fs.lookup f with
        | some old => ((ev T ps e).f ρ).then fun p ρ1 => match ipD op old p.1 with
          | some r => if clsOk i k ρ1 then fsetO i f r ρ1 else .bad
          | none => .bad
        | none => .bad
      | _ => .bad
  | .ret e, ρ => retV e (ev T ps e).f ρ
  | .retN, ρ => .rt .non 0 ρ
  | .ite t a b, ρ => ((ev T ps t).t ρ).then fun c ρ1 => if c then evS T ps a ρ1 else evS T ps b ρ1
  | .for_ t it b, ρ => ((ev T ps it).it ρ).then fun ds ρ1 => forLoop (bindT ps t) (evS T ps b) ds ρ1
  | .while_ t b, ρ => whileLoop (ev T ps t).t (evS T ps b) whileFuel ρ
  | .brk, ρ => .bk ρ
  | .cont, ρ => .ct ρ
  | .raise k as, ρ => ((ev T ps as).al ρ).then fun ds ρ1 => .exc (.ins k []) ρ1
  | .try_ b k h, ρ => match evS T ps b ρ with
      | .exc (.ins k' fs) ρ1 => if k = k' then noexcS (evS T ps h ρ1) else .exc (.ins k' fs) ρ1
      | r => r

/-- a def: how many parameters, how many slots, which parameters it changes, its body -/
structure Def where
  np : Nat
  ns : Nat
  io : List Bool
  body : CS
  deriving Inhabited
def Def.ps (d : Def) : List Nat := (List.range d.np).filter fun i => d.io.getD i false
def startR (d : Def) (args : List D) : Rho := (args.zip d.io).map (fun p => some (p.1, if p.2 then 1 else 0)) ++ List.replicate (d.ns - args.length) none
def maskR (io : List Bool) (ρ : Rho) : List Slt := List.zipWith (fun b s => if b then s else none) io ρ
def runDef (T : Tb) (d : Def) (args : List D) : FR :=
  if args.length = d.np then
    match evS T d.ps d.body (startR d args) with
    | .nx ρ => .ok .non 0 (maskR d.io ρ)
    | .rt r l ρ => .ok r l (maskR d.io ρ)
    | .exc x ρ => .exc x (maskR d.io ρ)
    | _ => .bad
  else .bad
end Ev
end
section
set_option Elab.async false
set_option linter.all false
set_option maxRecDepth 100000
set_option maxHeartbeats 4000000
set_option autoImplicit false
namespace Ev
open PySem PySem.Spec PyProof.Rows L2

/-! ### the readings' relations -/
def OpdR (F : Fm) (σ : L2.St) : RT Opd V := fun _ _ G _ _ o x => match o with
  | .v d => RepF F.c G d x
  | .s i => σ[i]? = some (some x)
def BoolR : RT Bool Bool := fun _ _ _ _ _ b b' => b' = b
def ResRs (F : Fm) : RT (List (D × Nat)) (List V) := fun H0 fp0 G H fp ps vs =>
  ∃ qs : List (List Addr), qs.length = ps.length ∧ vs.length = ps.length ∧ (∀ (i : Nat) p v q, ps[i]? = some p → vs[i]? = some v → qs[i]? = some q → SlotR F.c G H p.2 p.1 v q) ∧ qs.flatten.Nodup ∧
    ∀ b ∈ qs.flatten, G b = none ∧ (F.B b = none ∨ b ∈ F.as) ∧ (∀ j, b ∉ fp j) ∧ (H0 b = none ∨ ∃ i, b ∈ fp0 i)
def OpdRs (F : Fm) (σ : L2.St) : RT (List Opd) (List V) := fun H0 fp0 G H fp os vs =>
  os.length = vs.length ∧ ∀ (i : Nat) o v, os[i]? = some o → vs[i]? = some v → OpdR F σ H0 fp0 G H fp o v
def ItemsR (F : Fm) : RT (List D) Unit := fun _ _ _ _ _ _ _ => True

section
variable {F : Fm} {W : WXt} {G G' H H' : Hp} {σ : L2.St} {ρ : Rho} {fp : Fps}
theorem back_opd : Back (OpdR F σ) := ⟨fun {G0 H0 G1 H1 G2 H2 f0 f1 f2 a v} _ h => h⟩
theorem back_bool : Back BoolR := ⟨fun {G0 H0 G1 H1 G2 H2 f0 f1 f2 a v} _ h => h⟩
theorem back_opds : Back (OpdRs F σ) := ⟨fun {G0 H0 G1 H1 G2 H2 f0 f1 f2 a v} _ h => h⟩
theorem Adv.new {G0 H0 G1 H1 : Hp} {f0 f1 : Fps} (x : Adv G0 H0 f0 G1 H1 f1) {b : Addr} (h : H1 b = none ∨ ∃ i, b ∈ f1 i) : H0 b = none ∨ ∃ i, b ∈ f0 i := by
  rcases h with e | ⟨i, e⟩
  · by_cases hf : ∃ i, b ∈ f0 i
    · exact .inr hf
    · left
      cases q : H0 b with
      | none => rfl
      | some o => rw [x.kp b o q fun i z => hf ⟨i, z⟩] at e; cases e
  · exact x.ff i b e
theorem back_ress : Back (ResRs F) := by
  refine ⟨?_⟩
  intro G0 H0 G1 H1 G2 H2 f0 f1 f2 a v x ⟨qs, h1, h2, h3, h4, h5⟩
  refine ⟨qs, h1, h2, h3, h4, fun b hb => ?_⟩
  obtain ⟨a1, a2, a3, a4⟩ := h5 b hb
  exact ⟨a1, a2, a3, x.new a4⟩

abbrev tV (F : Fm) (W : WXt) (m : Rho → Res (D × Nat)) : TE := fun σ H Q => tP F W (ResR F) m σ H Q
abbrev tO (F : Fm) (W : WXt) (m : Rho → Res Opd) : TE := fun σ H Q => tP F W (OpdR F σ) m σ H Q
abbrev tT (F : Fm) (W : WXt) (m : Rho → Res Bool) : TT := fun σ H Q => tP F W BoolR m σ H Q
abbrev tAo (F : Fm) (W : WXt) (m : Rho → Res (List Opd)) : TA := fun σ H Q => tP F W (OpdRs F σ) m σ H Q
abbrev tAl (F : Fm) (W : WXt) (m : Rho → Res (List (D × Nat))) : TA := fun σ H Q => tP F W (ResRs F) m σ H Q

/-- a reading that asks more may be taken for one that asks less -/
theorem PE.weak {X : Cx} {e : Expr} {t t' : TE} (h : PE X e t) (w : ∀ σ H Q, t' σ H Q → t σ H Q) : PE X e t' := ⟨fun pins s σ H Q I q => h.run pins s σ H Q I (w _ _ _ q)⟩
theorem PT.weak {X : Cx} {e : Expr} {t t' : TT} (h : PT X e t) (w : ∀ σ H Q, t' σ H Q → t σ H Q) : PT X e t' := ⟨fun pins s σ H Q I q => h.run pins s σ H Q I (w _ _ _ q)⟩
theorem PA.weak {X : Cx} {e : List Expr} {t t' : TA} (h : PA X e t) (w : ∀ σ H Q, t' σ H Q → t σ H Q) : PA X e t' := ⟨fun pos pins s σ H Q I q => h.run pos pins s σ H Q I (w _ _ _ q)⟩
theorem PS.weak {X : Cx} {e : Stmt} {t t' : TS} (h : PS X e t) (w : ∀ D σ H, t' D σ H → t D σ H) : PS X e t' := ⟨fun pins s σ H D I q => h.run pins s σ H D I (w _ _ _ q)⟩
theorem PSs.weak {X : Cx} {e : List Stmt} {t t' : TS} (h : PSs X e t) (w : ∀ D σ H, t' D σ H → t D σ H) : PSs X e t' := ⟨fun pins s σ H D I q => h.run pins s σ H D I (w _ _ _ q)⟩

/-! ### operands -/
theorem EnvOk.rd (E : EnvOk F G H σ ρ fp) {H0 : Hp} {fp0 : Fps} {o : Opd} {d : D} {x : V} (r : OpdR F σ H0 fp0 G H fp o x) (e : rdO ρ o = some d) : RepN F.c G H d x := by
  cases o with
  | v d' =>
    simp only [rdO, Option.some.injEq] at e
    subst e
    exact RepN.of E.le r
  | s i =>
    simp only [rdO] at e
    split at e
    · rename_i d' h
      cases e
      obtain ⟨v, hv, a, rfl, _, ht⟩ := E.sl i d 1 h
      have r' : σ[i]? = some (some x) := r
      rw [hv] at r'
      cases r'
      exact RepN.ofT ht
    · cases e
/-- behind a further step an operand is still one -/
theorem OpdR.adv {H0 H0' H1 G1 G2 H2 : Hp} {f0 f0' f1 f2 : Fps} {o : Opd} {x : V} (r : OpdR F σ H0 f0 G1 H1 f1 o x) (s : Same G1 G2) : OpdR F σ H0' f0' G2 H2 f2 o x := by
  cases o with
  | v d => exact RepF.same s _ _ r
  | s i => exact r

/-- something new, or frozen -/
def NewR (c : Ct) (G H G' H' : Hp) (p : D × Nat) (v : V) : Prop :=
  (p.2 = 0 ∧ RepF c G' p.1 v) ∨ (p.2 = 1 ∧ ∃ a, v = .ref a ∧ H a = none ∧ G' a = none ∧ RepT c G' H' p.1 a)
theorem EnvOk.outNone (E : EnvOk F G H σ ρ fp) {a : Addr} (h : H a = none) : (F.B a = none ∨ a ∈ F.as) ∧ ∀ j, a ∉ fp j := by
  refine ⟨?_, fun j z => ?_⟩
  · cases q : F.B a with
    | none => exact .inl rfl
    | some o =>
      by_cases ha : a ∈ F.as
      · exact .inr ha
      · rw [E.kp a o q ha] at h; cases h
  · obtain ⟨o, ho⟩ := E.fpthere z
    rw [h] at ho; cases ho
theorem EnvOk.newR (E : EnvOk F G H σ ρ fp) {p : D × Nat} {v : V} (r : NewR F.c G H G' H' p v) : ResR F H fp G' H' fp p v := by
  obtain ⟨d, l⟩ := p
  rcases r with ⟨rfl, r⟩ | ⟨rfl, a, rfl, ha, hg, r⟩
  · exact ResR.of r
  · refine ⟨[a], ⟨a, rfl, rfl, r⟩, by simp, fun b hb => ?_⟩
    rw [List.mem_singleton] at hb; subst hb
    exact ⟨hg, (E.outNone ha).1, (E.outNone ha).2, .inl ha⟩

/-- what an operation on values gives, told by data -/
def Gives (c : Ct) (r : List V → Hp → VK → Prop) (p : List D → Option (D × Nat)) : Prop :=
  ∀ (G H : Hp) (ds : List D) (vs : List V) (q : D × Nat) (Q : VK), Same G H → ds.length = vs.length → (∀ (i : Nat) d v, ds[i]? = some d → vs[i]? = some v → RepN c G H d v) → p ds = some q →
    (∀ G' H' v, Ext G H G' H' → NewR c G H G' H' q v → Q v H') → r vs H Q
theorem EnvOk.rds (E : EnvOk F G H σ ρ fp) {H0 : Hp} {fp0 : Fps} : ∀ {os : List Opd} {vs : List V} {ds : List D}, OpdRs F σ H0 fp0 G H fp os vs → rdOs ρ os = some ds →
    ds.length = vs.length ∧ ∀ (i : Nat) d v, ds[i]? = some d → vs[i]? = some v → RepN F.c G H d v
  | [], vs, ds, h, e => by
    simp only [rdOs, Option.some.injEq] at e
    subst e
    obtain ⟨h, _⟩ := h
    rw [List.length_nil] at h
    exact ⟨h, fun i d v z => by simp at z⟩
  | o :: os, vs, ds, h, e => by
    simp only [rdOs] at e
    split at e
    · rename_i d ds' h1 h2
      cases e
      obtain ⟨hl, hr⟩ := h
      cases vs with
      | nil => simp at hl
      | cons v vs =>
        have hr2 : OpdRs F σ H0 fp0 G H fp os vs := ⟨by simpa using hl, fun i o' v' a b => hr (i + 1) o' v' (by simpa using a) (by simpa using b)⟩
        obtain ⟨q1, q2⟩ := E.rds hr2 h2
        refine ⟨by simp [q1], fun i d' v' a b => ?_⟩
        cases i with
        | zero =>
          simp at a b
          subst a b
          exact E.rd (hr 0 o v rfl rfl) h1
        | succ i => exact q2 i d' v' (by simpa using a) (by simpa using b)
    · cases e
theorem bltO_ok {f : List D → Option (D × Nat)} {os : List Opd} {Q : V → Hp → Prop} {c : Ct} {r : List V → Hp → VK → Prop} {vs : List V} (hc : F.c = c) (g : Gives c r f) (E : EnvOk F G H σ ρ fp) {H0 : Hp} {fp0 : Fps} (ro : OpdRs F σ H0 fp0 G H fp os vs)
    (h : OutP F W (ResR F) σ Q G H fp (bltO f os ρ)) : r vs H Q := by
  subst hc
  unfold bltO at h
  split at h
  · rename_i ds e
    obtain ⟨q1, q2⟩ := E.rds ro e
    cases e2 : f ds with
    | none => rw [e2] at h; exact h.elim
    | some q =>
      rw [e2] at h
      refine g G H ds vs q Q E.le q1 q2 e2 fun G' H' v x n => ?_
      exact h G' H' fp v x.adv (E.ext x) (E.newR n)
  · exact h.elim
theorem OpdRs.nil {H0 : Hp} {fp0 : Fps} : OpdRs F σ H0 fp0 G H fp [] [] := ⟨rfl, fun i o v z => by simp at z⟩
theorem OpdRs.cons {H0 : Hp} {fp0 : Fps} {o : Opd} {v : V} {os : List Opd} {vs : List V} (h : OpdR F σ H0 fp0 G H fp o v) (hs : OpdRs F σ H0 fp0 G H fp os vs) : OpdRs F σ H0 fp0 G H fp (o :: os) (v :: vs) :=
  ⟨by simp [hs.1], fun i o' v' a b => by
    cases i with
    | zero =>
      simp at a b
      subst a b
      exact h
    | succ i => exact hs.2 i o' v' (by simpa using a) (by simpa using b)⟩

/-! ### leaves -/
theorem tV_pure {d : D} {v : V} (hr : ∀ G, RepF F.c G d v) : ∀ σ H Q, tV F W (pureF d) σ H Q → tC v σ H Q := by
  intro σ H Q ⟨G, ρ, fp, E, h⟩
  exact h G H fp v Adv.refl E (ResR.of (hr G))
theorem tV_var {i : Nat} : ∀ σ H Q, tV F W (varF i) σ H Q → tVar i σ H Q := by
  intro σ H Q ⟨G, ρ, fp, E, h⟩
  unfold varF at h
  split at h
  · rename_i d l e
    obtain ⟨G', fp', v, hv, E', r, a⟩ := E.frzS e
    exact ⟨v, hv, h G' H fp' v a E' (ResR.of r)⟩
  · exact h.elim
theorem tO_var {i : Nat} : ∀ σ H Q, tO F W (varO i) σ H Q → tVar i σ H Q := by
  intro σ H Q ⟨G, ρ, fp, E, h⟩
  unfold varO at h
  split at h
  · rename_i d e
    obtain ⟨v, hv, _, r⟩ := E.sl i d 0 e
    exact ⟨v, hv, h G H fp v Adv.refl E r⟩
  · rename_i d e
    obtain ⟨v, hv, r⟩ := E.sl i d 1 e
    exact ⟨v, hv, h G H fp v Adv.refl E hv⟩
  · rename_i d e
    obtain ⟨v, hv, r⟩ := E.sl i d 2 e
    obtain ⟨G', fp', E', a⟩ := E.frz1 e
    exact ⟨v, hv, h G' H fp' v a E' hv⟩
  · exact h.elim
/-- a value frozen, as an operand -/
theorem tO_frz {m : Rho → Res (D × Nat)} : ∀ σ H Q, tO F W (fun ρ => frzV (m ρ)) σ H Q → tV F W m σ H Q := by
  intro σ H Q ⟨G, ρ, fp, E, h⟩
  refine tP.bind back_opd E h fun a ρ1 G1 H1 fp1 x e ad E1 r h1 => ?_
  obtain ⟨G2, E2, r2, s, nw⟩ := E1.frzR r
  have h3 : ∀ G' H' fp' v, Adv G H fp G' H' fp' → EnvOk F G' H' σ ρ1 fp' → OpdR F σ H fp G' H' fp' (.v a.1) v → Q v H' := by
    have h' := h
    simp only [frzV, e, Res.bind] at h'
    exact h'
  refine h3 G2 H1 fp1 x ⟨ad.gg.trans s, ad.kp, fun b o z => ?_, ad.ff⟩ E2 r2
  rcases nw b o z with z | z
  · exact ad.nw b o z
  · exact .inr z
end
end Ev
end
section
set_option Elab.async false
set_option linter.all false
set_option maxRecDepth 100000
set_option maxHeartbeats 4000000
set_option autoImplicit false
namespace Ev
open PySem PySem.Spec PyProof.Rows L2

theorem Ext.laid {G H : Hp} {p : Addr} {o : HO} (s : Same G H) (h : H p = none) : Ext G H (upd G p o) (upd H p o) := by
  have hg : G p = none := s.free h
  have e1 : Same G (upd G p o) := fun b u e => by rw [upd_ne (ne_of_none e hg)]; exact e
  refine ⟨e1, fun b u e => ?_, fun b u e => by rw [upd_ne (ne_of_none e h)]; exact e, fun b u e => ?_⟩
  · by_cases hb : b = p
    · subst hb; rw [upd_same] at e ⊢; exact e
    · rw [upd_ne hb] at e ⊢; exact s _ _ e
  · by_cases hb : b = p
    · subst hb; exact .inr h
    · rw [upd_ne hb] at e; exact .inl e
theorem Ext.own {G H : Hp} {p : Addr} {o : HO} (s : Same G H) (h : H p = none) : Ext G H G (upd H p o) :=
  ⟨Same.refl _, fun b u e => by rw [upd_ne (ne_of_none e (s.free h))]; exact s _ _ e, fun b u e => by rw [upd_ne (ne_of_none e h)]; exact e, fun _ _ e => .inl e⟩

/-- two values -/
def Gives2 (c : Ct) (r : R2) (p : D → D → Option (D × Nat)) : Prop :=
  ∀ (G H : Hp) (a b : D) (x y : V) (q : D × Nat) (Q : VK), Same G H → RepN c G H a x → RepN c G H b y → p a b = some q →
    (∀ G' H' v, Ext G H G' H' → NewR c G H G' H' q v → Q v H') → r x y H Q
theorem Gives2.gives {c : Ct} {r : R2} {p : D → D → Option (D × Nat)} (g : Gives2 c r p) : Gives c (fun vs H Q => ∃ x y, vs = [x, y] ∧ r x y H Q) (val2 p) := by
  intro G H ds vs q Q s hl hr e k
  match ds, vs, e, hl with
  | [a, b], [x, y], e, _ => exact ⟨x, y, rfl, g G H a b x y q Q s (hr 0 a x rfl rfl) (hr 1 b y rfl rfl) e k⟩
def Gives1 (c : Ct) (r : V → Hp → VK → Prop) (p : D → Option (D × Nat)) : Prop :=
  ∀ (G H : Hp) (a : D) (x : V) (q : D × Nat) (Q : VK), Same G H → RepN c G H a x → p a = some q →
    (∀ G' H' v, Ext G H G' H' → NewR c G H G' H' q v → Q v H') → r x H Q
theorem Gives1.gives {c : Ct} {r : V → Hp → VK → Prop} {p : D → Option (D × Nat)} (g : Gives1 c r p) : Gives c (fun vs H Q => ∃ x, vs = [x] ∧ r x H Q) (val1 p) := by
  intro G H ds vs q Q s hl hr e k
  match ds, vs, e, hl with
  | [a], [x], e, _ => exact ⟨x, rfl, g G H a x q Q s (hr 0 a x rfl rfl) e k⟩

section
variable {c : Ct} {G H : Hp} {q : D × Nat} {Q : VK}
/-- nothing new is laid -/
theorem stay {d : D} {v : V} (s : Same G H) (hr : RepF c G d v) (k : ∀ G' H' v, Ext G H G' H' → NewR c G H G' H' (d, 0) v → Q v H') : Q v H := k G H v (Ext.refl s) (.inl ⟨rfl, hr⟩)
theorem stayI {i : Int} (s : Same G H) (k : ∀ G' H' v, Ext G H G' H' → NewR c G H G' H' (.int i, 0) v → Q v H') : Q (.int i) H := stay s (by simp only [RepF]) k
theorem stayB {b : Bool} (s : Same G H) (k : ∀ G' H' v, Ext G H G' H' → NewR c G H G' H' (.bl b, 0) v → Q v H') : Q (.bl b) H := stay s (by simp only [RepF]) k
theorem stayS {x : Str} (s : Same G H) (k : ∀ G' H' v, Ext G H G' H' → NewR c G H G' H' (.str x, 0) v → Q v H') : Q (.str x) H := stay s (by simp only [RepF]) k
theorem newT {ds : List D} {vs : List V} (s : Same G H) (hr : RepFs c G ds vs) (k : ∀ G' H' v, Ext G H G' H' → NewR c G H G' H' (.tup ds, 0) v → Q v H') : ∀ p, H p = none → Q (.ref p) (upd H p (.tup vs)) := fun p hp => by
  refine k (upd G p (.tup vs)) _ _ (Ext.laid s hp) (.inl ⟨rfl, ?_⟩)
  simp only [RepF]
  exact ⟨p, vs, rfl, SqT.of upd_same, RepFs.same (Ext.laid s hp).gg _ _ hr⟩
theorem newL {ds : List D} {vs : List V} (s : Same G H) (hr : RepFs c G ds vs) (k : ∀ G' H' v, Ext G H G' H' → NewR c G H G' H' (.lst ds, 1) v → Q v H') : ∀ p, H p = none → Q (.ref p) (upd H p (.lst vs)) := fun p hp => by
  exact k G _ _ (Ext.own s hp) (.inr ⟨rfl, p, rfl, hp, s.free hp, vs, upd_same, hr⟩)
theorem RepN.int {i : Int} {v : V} (h : RepN c G H (.int i) v) : v = .int i := by simpa only [RepN, RepF] using h
theorem RepN.str {i : Str} {v : V} (h : RepN c G H (.str i) v) : v = .str i := by simpa only [RepN, RepF] using h
theorem RepN.bl {i : Bool} {v : V} (h : RepN c G H (.bl i) v) : v = .bl i := by simpa only [RepN, RepF] using h
theorem RepN.non {v : V} (h : RepN c G H .non v) : v = .non := by simpa only [RepN, RepF] using h
theorem RepN.tup (s : Same G H) {ds : List D} {v : V} (h : RepN c G H (.tup ds) v) : ∃ a vs, v = .ref a ∧ SqT c.K H a vs ∧ RepFs c G ds vs := by
  simp only [RepN, RepF] at h
  obtain ⟨a, vs, rfl, h1, h2⟩ := h
  exact ⟨a, vs, rfl, SqT.same s h1, h2⟩
theorem RepN.tup' {ds : List D} {v : V} (h : RepN c G H (.tup ds) v) : ∃ a vs, v = .ref a ∧ SqT c.K G a vs ∧ RepFs c G ds vs := by
  simpa only [RepN, RepF] using h
theorem RepN.lst {ds : List D} {v : V} (h : RepN c G H (.lst ds) v) : ∃ a vs, v = .ref a ∧ H a = some (.lst vs) ∧ RepFs c G ds vs := h

/-! ### + - * // % ** -/
section
variable {X : Cx}
def NoR : R2 := fun _ _ _ _ => False
theorem op_no {f : Value → Value → Sem Value} : OpR X f NoR := fun pins s σ H x y v u Q I rx ry h => False.elim h
abbrev rAddA (K : PySem.W.Frag) : R2 := fun x y H Q => (rI0 (fun i j => .int (i + j))) x y H Q ∨ (fun x y H Q => ∃ i j, x = V.str i ∧ y = V.str j ∧ i.length + j.length ≤ sizeLine ∧ Q (.str (i ++ j)) H) x y H Q ∨ rCat x y H Q ∨ rCatA K x y H Q
theorem op_addA : OpR X (binaryOp .Add) (rAddA X.K) := OpR.or op_add (OpR.or op_add_str (OpR.or op_cat op_catA))
theorem g_add : Gives2 c (rAddA c.K) (binD .Add) := by
  intro G H a b x y q Q s ha hb e k
  match a, b, e with
  | .int i, .int j, e =>
    cases e
    cases ha.int; cases hb.int
    exact .inl ⟨i, j, rfl, rfl, stayI s k⟩
  | .str i, .str j, e =>
    simp only [binD] at e
    split at e
    · rename_i hz
      cases e
      cases ha.str; cases hb.str
      exact .inr (.inl ⟨i, j, rfl, rfl, by rw [LIM_eq]; exact hz, stayS s k⟩)
    · cases e
  | .lst ds, .lst es, e =>
    simp only [binD] at e
    split at e
    · rename_i hz
      cases e
      obtain ⟨p, vs, rfl, h1, h2⟩ := ha.lst
      obtain ⟨p', vs', rfl, h1', h2'⟩ := hb.lst
      exact .inr (.inr (.inl ⟨p, p', vs, vs', rfl, rfl, h1, h1', by rw [h2.length, h2'.length, LIM_eq]; exact hz, newL s (h2.append h2') k⟩))
    · cases e
  | .tup ds, .tup es, e =>
    simp only [binD] at e
    split at e
    · rename_i hz
      cases e
      have ha' := ha
      have hb' := hb
      obtain ⟨p, vs, rfl, h1, h2⟩ := ha.tup s
      obtain ⟨p', vs', rfl, h1', h2'⟩ := hb.tup s
      refine .inr (.inr (.inr ⟨p, p', vs, vs', rfl, rfl, h1, h1', by rw [h2.length, h2'.length, LIM_eq]; exact hz, fun z => ?_, fun _ z => ?_, fun _ _ => newT s (h2.append h2') k⟩))
      · subst z
        have : ds = [] := List.eq_nil_of_length_eq_zero h2.length.symm
        subst this
        rw [List.nil_append] at k
        exact stay s (by simpa only [RepN] using hb') k
      · subst z
        have : es = [] := List.eq_nil_of_length_eq_zero h2'.length.symm
        subst this
        rw [List.append_nil] at k
        exact stay s (by simpa only [RepN] using ha') k
    · cases e
theorem g_sub : Gives2 c (rI0 fun i j => .int (i - j)) (binD .Sub) := by
  intro G H a b x y q Q s ha hb e k
  match a, b, e with
  | .int i, .int j, e =>
    cases e
    cases ha.int; cases hb.int
    exact ⟨i, j, rfl, rfl, stayI s k⟩
abbrev rMulA : R2 := fun x y H Q => (rI CMul (fun i j => .int (i * j))) x y H Q ∨ rRep x y H Q
theorem op_mulA : OpR X (binaryOp .Mult) rMulA := OpR.or op_mul op_rep
theorem mulOk_ok {i j : Int} (h : mulOk i j = true) : CMul i j := by
  unfold mulOk at h
  simp only [Bool.or_eq_true, Bool.and_eq_true, decide_eq_true_eq] at h
  exact h
theorem RepFs.rep {ds : List D} {vs : List V} (h : RepFs c G ds vs) : ∀ n : Nat, RepFs c G (List.replicate n ds).flatten (List.replicate n vs).flatten
  | 0 => by simp [RepFs]
  | n + 1 => by
    rw [List.replicate_succ, List.replicate_succ, List.flatten_cons, List.flatten_cons]
    exact h.append (RepFs.rep h n)
theorem g_mul : Gives2 c rMulA (binD .Mult) := by
  intro G H a b x y q Q s ha hb e k
  match a, b, e with
  | .int i, .int j, e =>
    simp only [binD] at e
    split at e
    · rename_i hz
      cases e
      cases ha.int; cases hb.int
      exact .inl ⟨i, j, rfl, rfl, mulOk_ok hz, stayI s k⟩
    · cases e
  | .lst ds, .int j, e =>
    simp only [binD] at e
    split at e
    · rename_i hz
      cases e
      obtain ⟨p, vs, rfl, h1, h2⟩ := ha.lst
      cases hb.int
      exact .inr ⟨p, j, vs, rfl, rfl, h1, hz.1, hz.2.1, by rw [h2.length, LIM_eq]; exact hz.2.2, newL s (RepFs.rep h2 _) k⟩
    · cases e
theorem g_fdiv : Gives2 c (rI CDiv fun i j => .int (i / j)) (binD .FloorDiv) := by
  intro G H a b x y q Q s ha hb e k
  match a, b, e with
  | .int i, .int j, e =>
    simp only [binD] at e
    split at e
    · rename_i hz
      cases e
      cases ha.int; cases hb.int
      exact ⟨i, j, rfl, rfl, hz, stayI s k⟩
    · cases e
theorem g_mod : Gives2 c (rI (fun _ j => 0 < j) fun i j => .int (i % j)) (binD .Mod) := by
  intro G H a b x y q Q s ha hb e k
  match a, b, e with
  | .int i, .int j, e =>
    simp only [binD] at e
    split at e
    · rename_i hz
      cases e
      cases ha.int; cases hb.int
      exact ⟨i, j, rfl, rfl, hz, stayI s k⟩
    · cases e
theorem g_pow : Gives2 c (rI CPow fun i j => .int (i ^ j.toNat)) (binD .Pow) := by
  intro G H a b x y q Q s ha hb e k
  match a, b, e with
  | .int i, .int j, e =>
    simp only [binD] at e
    split at e
    · rename_i hz
      cases e
      cases ha.int; cases hb.int
      exact ⟨i, j, rfl, rfl, hz, stayI s k⟩
    · cases e
theorem g_none {p : D → D → Option (D × Nat)} (h : ∀ a b, p a b = none) : Gives2 c NoR p := by
  intro G H a b x y q Q s ha hb e k
  rw [h] at e; cases e
/-- every operator -/
theorem g_bin (hK : X.K = c.K) (op : Operator) : ∃ r : R2, OpR X (binaryOp op) r ∧ Gives2 c r (binD op) := by
  cases op with
  | Add => exact ⟨_, op_addA, by rw [hK]; exact g_add⟩
  | Sub => exact ⟨_, op_sub, g_sub⟩
  | Mult => exact ⟨_, op_mulA, g_mul⟩
  | Mod => exact ⟨_, op_mod, g_mod⟩
  | FloorDiv => exact ⟨_, op_fdiv, g_fdiv⟩
  | Pow => exact ⟨_, op_pow, g_pow⟩
  | MatMult => exact ⟨_, op_no, g_none fun a b => rfl⟩
  | Div => exact ⟨_, op_no, g_none fun a b => rfl⟩
  | LShift => exact ⟨_, op_no, g_none fun a b => rfl⟩
  | RShift => exact ⟨_, op_no, g_none fun a b => rfl⟩
  | BitOr => exact ⟨_, op_no, g_none fun a b => rfl⟩
  | BitXor => exact ⟨_, op_no, g_none fun a b => rfl⟩
  | BitAnd => exact ⟨_, op_no, g_none fun a b => rfl⟩
end
end
end Ev
end
section
set_option Elab.async false
set_option linter.all false
set_option maxRecDepth 100000
set_option maxHeartbeats 4000000
set_option autoImplicit false
namespace Ev
open PySem PySem.Spec PyProof.Rows L2

/-! ### plain data in the heap -/
mutual
theorem RepF.dp {c : Ct} {G H : Hp} (s : Same G H) : ∀ (n : Nat) (d : D) (v : V), okAt n d = true → RepF c G d v → Dp c.K H v (py d)
  | _, .non, v, _, h => by simp only [RepF] at h; subst h; exact .non
  | _, .bl b, v, _, h => by simp only [RepF] at h; subst h; exact .bl b
  | _, .int b, v, _, h => by simp only [RepF] at h; subst h; exact .int b
  | _, .str b, v, _, h => by simp only [RepF] at h; subst h; exact .str b
  | n + 1, .tup ds, v, o, h => by
    simp only [RepF] at h
    obtain ⟨a, vs, rfl, h1, h2⟩ := h
    simp only [okAt] at o
    exact .tup (SqT.same s h1) (RepFs.dp s n ds vs o h2)
  | n + 1, .lst ds, v, o, h => by
    simp only [RepF] at h
    obtain ⟨a, vs, rfl, h1, h2⟩ := h
    simp only [okAt] at o
    exact .lst (SqL.of (s _ _ h1)) (RepFs.dp s n ds vs o h2)
  | 0, .tup ds, v, o, h => by simp [okAt] at o
  | 0, .lst ds, v, o, h => by simp [okAt] at o
  | n, .dic _, v, o, h => by cases n <;> simp [okAt] at o
  | n, .fn _, v, o, h => by cases n <;> simp [okAt] at o
  | n, .ins _ _, v, o, h => by cases n <;> simp [okAt] at o
  | n, .scr _, v, o, h => by cases n <;> simp [okAt] at o
theorem RepFs.dp {c : Ct} {G H : Hp} (s : Same G H) : ∀ (n : Nat) (ds : List D) (vs : List V), okAll n ds = true → RepFs c G ds vs → DpAll c.K H vs (pys ds)
  | n, [], vs, _, h => by simp only [RepFs] at h; subst h; exact .nil
  | n, d :: ds, vs, o, h => by
    simp only [RepFs] at h
    obtain ⟨v, r, rfl, h1, h2⟩ := h
    simp only [okAll, Bool.and_eq_true] at o
    exact .cons (RepF.dp s n d v o.1 h1) (RepFs.dp s n ds r o.2 h2)
end
mutual
theorem okAt.can : ∀ (n : Nat) (d : D), okAt n d = true → (py d).canLay0 = true ∧ (py d).depth ≤ n
  | _, .non, _ => by simp [py, PyData.canLay0, PyData.depth]
  | _, .bl b, _ => by simp [py, PyData.canLay0, PyData.depth]
  | _, .int b, _ => by simp [py, PyData.canLay0, PyData.depth]
  | n, .str b, o => by
    have o' : PyData.strOk b = true := by cases n <;> simpa [okAt] using o
    simp [py, PyData.canLay0, PyData.depth, o']
  | n + 1, .tup ds, o => by
    simp only [okAt] at o
    have h := okAll.can n ds o
    simp only [py, PyData.canLay0, PyData.depth]
    exact ⟨h.1, by omega⟩
  | n + 1, .lst ds, o => by
    simp only [okAt] at o
    have h := okAll.can n ds o
    simp only [py, PyData.canLay0, PyData.depth]
    exact ⟨h.1, by omega⟩
  | 0, .tup ds, o => by simp [okAt] at o
  | 0, .lst ds, o => by simp [okAt] at o
  | n, .dic _, o => by cases n <;> simp [okAt] at o
  | n, .fn _, o => by cases n <;> simp [okAt] at o
  | n, .ins _ _, o => by cases n <;> simp [okAt] at o
  | n, .scr _, o => by cases n <;> simp [okAt] at o
theorem okAll.can : ∀ (n : Nat) (ds : List D), okAll n ds = true → PyData.canLayAll0 (pys ds) = true ∧ PyData.depthAll (pys ds) ≤ n
  | n, [], _ => by simp [pys, PyData.canLayAll0, PyData.depthAll]
  | n, d :: ds, o => by
    simp only [okAll, Bool.and_eq_true] at o
    have h1 := okAt.can n d o.1
    have h2 := okAll.can n ds o.2
    simp only [pys, PyData.canLayAll0, PyData.depthAll, h1.1, h2.1, Bool.and_true, true_and]
    omega
end
theorem okD.shaped {d : D} (h : okD d = true) : SeqAt.shaped (py d) = true := by
  have := okAt.can 60 d h
  unfold SeqAt.shaped
  rw [this.1, Bool.true_and]
  exact decide_eq_true (by omega)
theorem RepN.dp {c : Ct} {G H : Hp} (s : Same G H) {d : D} {v : V} (o : okD d = true) (h : RepN c G H d v) : Dp c.K H v (py d) := by
  unfold okD at o
  cases d with
  | lst ds =>
    obtain ⟨a, vs, rfl, h1, h2⟩ := h
    simp only [okAt] at o
    exact .lst (SqL.of h1) (RepFs.dp s _ ds vs o h2)
  | dic kvs => simp [okAt] at o
  | ins k fs => simp [okAt] at o
  | non => exact RepF.dp s 60 _ v o h
  | bl b => exact RepF.dp s 60 _ v o h
  | int i => exact RepF.dp s 60 _ v o h
  | str x => exact RepF.dp s 60 _ v o h
  | tup ds => exact RepF.dp s 60 _ v o h
  | fn j => exact RepF.dp s 60 _ v o h
  | scr ns => exact RepF.dp s 60 _ v o h

section
variable {X : Cx}
/-- x is b, b a truth -/
theorem plain_bl {x : V} {v : Value} (r : RelV x v) (b : Bool) : plainIs v (.bool b) = true ∧ (v = .bool b ↔ x = .bl b) := by
  cases x with
  | non => cases r; exact ⟨rfl, by constructor <;> intro h <;> cases h⟩
  | bl c =>
    cases r
    exact ⟨rfl, ⟨fun h => by injection h with h; rw [h], fun h => by injection h with h; rw [h]⟩⟩
  | int i => obtain ⟨t, rfl⟩ := r; exact ⟨rfl, by constructor <;> intro h <;> cases h⟩
  | str i => obtain ⟨t, rfl⟩ := r; exact ⟨rfl, by constructor <;> intro h <;> cases h⟩
  | byt i => obtain ⟨t, rfl⟩ := r; exact ⟨rfl, by constructor <;> intro h <;> cases h⟩
  | flt i => obtain ⟨t, rfl⟩ := r; exact ⟨rfl, by constructor <;> intro h <;> cases h⟩
  | ref a => cases r; exact ⟨rfl, by constructor <;> intro h <;> cases h⟩
  | ty n => cases r; exact ⟨rfl, by constructor <;> intro h <;> cases h⟩
def rIsA : R2 := fun x y H Q => ∃ b : Bool, y = .bl b ∧ Q (.bl (decide (x = .bl b))) H
def rNotA : R2 := fun x y H Q => ∃ b : Bool, y = .bl b ∧ Q (.bl (!decide (x = .bl b))) H
theorem op_isA : OpR X (compareOp .Is) rIsA := by
  intro pins s σ H x y v u Q I rx ry h
  obtain ⟨b, rfl, q⟩ := h
  cases (show u = Value.bool b from ry)
  obtain ⟨p, e⟩ := plain_bl rx b
  by_cases hx : x = .bl b
  · have ev := e.mpr hx
    subst ev
    exact wpAny_is_self p ⟨.bl true, H, I, rfl, by simpa [hx] using q⟩
  · exact wpAny_is_other p (fun z => hx (e.mp z)) ⟨.bl false, H, I, rfl, by simpa [hx] using q⟩
theorem op_notA : OpR X (compareOp .IsNot) rNotA := by
  intro pins s σ H x y v u Q I rx ry h
  obtain ⟨b, rfl, q⟩ := h
  cases (show u = Value.bool b from ry)
  obtain ⟨p, e⟩ := plain_bl rx b
  by_cases hx : x = .bl b
  · have ev := e.mpr hx
    subst ev
    exact wpAny_isNot_self p ⟨.bl false, H, I, rfl, by simpa [hx] using q⟩
  · exact wpAny_isNot_other p (fun z => hx (e.mp z)) ⟨.bl true, H, I, rfl, by simpa [hx] using q⟩
/-- x in t, t a tuple -/
def rInT (K : PySem.W.Frag) : R2 := fun x y H Q => ∃ d ds, Dp K H x d ∧ Dp K H y (.tuple ds) ∧ SeqAt.shaped d = true ∧ SeqAt.shaped (.tuple ds) = true ∧ Q (.bl (ds.any fun z => PyData.eqv z d)) H
def rNotInT (K : PySem.W.Frag) : R2 := fun x y H Q => ∃ d ds, Dp K H x d ∧ Dp K H y (.tuple ds) ∧ SeqAt.shaped d = true ∧ SeqAt.shaped (.tuple ds) = true ∧ Q (.bl (!ds.any fun z => PyData.eqv z d)) H
theorem op_inT (hu : X.A.units + 65 < cLine) : OpR X (compareOp .In) (rInT X.K) := by
  intro pins s σ H x y v u Q I rx ry h
  obtain ⟨d, ds, hd, he, sd, se, q⟩ := h
  obtain ⟨as, r1⟩ := Dp.reads I d x v hd rx
  obtain ⟨bs, r2⟩ := Dp.reads I (.tuple ds) y u he ry
  exact SeqAt.in_tuple_reads r2 r1 (SeqAt.canLay_of_shaped se) (SeqAt.canLay_of_shaped sd) (room_in_shaped sd hu) ⟨.bl _, H, I, rfl, q⟩
theorem op_notInT (hu : X.A.units + 65 < cLine) : OpR X (compareOp .NotIn) (rNotInT X.K) := by
  intro pins s σ H x y v u Q I rx ry h
  obtain ⟨d, ds, hd, he, sd, se, q⟩ := h
  obtain ⟨as, r1⟩ := Dp.reads I d x v hd rx
  obtain ⟨bs, r2⟩ := Dp.reads I (.tuple ds) y u he ry
  exact SeqAt.notIn_tuple_reads r2 r1 (SeqAt.canLay_of_shaped se) (SeqAt.canLay_of_shaped sd) (room_in_shaped sd hu) ⟨.bl _, H, I, rfl, q⟩

variable {c : Ct}
abbrev GivesB (c : Ct) (r : R2) (p : D → D → Option Bool) : Prop := Gives2 c r fun a b => bool0 (p a b)
theorem bool0_some {o : Option Bool} {q : D × Nat} (e : bool0 o = some q) : ∃ b, o = some b ∧ q = (.bl b, 0) := by
  cases o with
  | none => cases e
  | some b => exact ⟨b, rfl, (Option.some.inj e).symm⟩
def rStrEq : R2 := fun x y H Q => ∃ i j, x = V.str i ∧ y = V.str j ∧ Q (.bl (decide (i = j))) H
def rStrNe : R2 := fun x y H Q => ∃ i j, x = V.str i ∧ y = V.str j ∧ Q (.bl (!decide (i = j))) H
theorem OpR.imp {f : Value → Value → Sem Value} {r r' : R2} (h : OpR X f r) (w : ∀ x y H Q, r' x y H Q → r x y H Q) : OpR X f r' := fun pins s σ H x y v u Q I rx ry q => h pins s σ H x y v u Q I rx ry (w _ _ _ _ q)
theorem dec_str {i j : Str} : decide (V.str i = V.str j) = decide (i = j) := by
  by_cases h : i = j
  · subst h; simp
  · rw [decide_eq_false h, decide_eq_false fun z => h (V.str.inj z)]
theorem op_strEq : OpR X (compareOp .Eq) rStrEq := OpR.imp op_eq fun x y H Q ⟨i, j, e1, e2, q⟩ => by
  subst e1 e2
  exact ⟨rfl, by rw [dec_str]; exact q⟩
theorem op_strNe : OpR X (compareOp .NotEq) rStrNe := OpR.imp op_ne fun x y H Q ⟨i, j, e1, e2, q⟩ => by
  subst e1 e2
  exact ⟨rfl, by rw [dec_str]; exact q⟩
theorem eqE_cases {a b : D} {k : Bool} (e : eqE a b = some k) : (∃ x y, a = .str x ∧ b = .str y ∧ k = decide (x = y)) ∨ (okD a = true ∧ okD b = true ∧ k = eqD a b) := by
  have gen : (if (okD a && okD b) = true then some (eqD a b) else none) = some k → okD a = true ∧ okD b = true ∧ k = eqD a b := fun h => by
    split at h
    · rename_i hz
      rw [Bool.and_eq_true] at hz
      cases h
      exact ⟨hz.1, hz.2, rfl⟩
    · cases h
  unfold eqE at e
  split at e
  · cases e
    exact .inl ⟨_, _, rfl, rfl, rfl⟩
  · exact .inr (gen e)
theorem g_eq (hu : X.A.units + 64 < cLine) : GivesB c (fun x y H Q => rStrEq x y H Q ∨ rEqD c.K x y H Q) eqE := by
  intro G H a b x y q Q s ha hb e k
  obtain ⟨kk, e0, rfl⟩ := bool0_some e
  clear e
  have e := e0
  clear e0
  first | dsimp only at e | skip
  rcases eqE_cases e with ⟨i, j, rfl, rfl, rfl⟩ | ⟨o1, o2, rfl⟩
  · cases ha.str; cases hb.str
    exact .inl ⟨i, j, rfl, rfl, stayB s k⟩
  · exact .inr ⟨py a, py b, ha.dp s o1, hb.dp s o2, okD.shaped o1, okD.shaped o2, stayB s k⟩
theorem g_ne (hu : X.A.units + 64 < cLine) : GivesB c (fun x y H Q => rStrNe x y H Q ∨ rNeD c.K x y H Q) (fun a b => (eqE a b).map (!·)) := by
  intro G H a b x y q Q s ha hb e k
  obtain ⟨kk, e0, rfl⟩ := bool0_some e
  clear e
  have e := e0
  clear e0
  first | dsimp only at e | skip
  cases e2 : eqE a b with
  | none => rw [e2] at e; cases e
  | some k2 =>
    rw [e2] at e
    cases e
    rcases eqE_cases e2 with ⟨i, j, rfl, rfl, rfl⟩ | ⟨o1, o2, rfl⟩
    · cases ha.str; cases hb.str
      exact .inl ⟨i, j, rfl, rfl, stayB s k⟩
    · exact .inr ⟨py a, py b, ha.dp s o1, hb.dp s o2, okD.shaped o1, okD.shaped o2, stayB s k⟩
theorem pys_any {x : D} : ∀ (ds : List D), ((pys ds).any fun z => PyData.eqv z (py x)) = ds.any fun z => eqD z x
  | [] => rfl
  | d :: ds => by simp only [pys, List.any_cons, pys_any ds]; rfl
theorem inD_cases {a b : D} {k : Bool} (e : inD a b = some k) : (∃ x y, a = .str x ∧ b = .str y ∧ k = inStr x y) ∨ (∃ ds, b = .lst ds ∧ okD a = true ∧ okD b = true ∧ k = ds.any fun z => eqD z a) ∨
    (∃ ds, b = .tup ds ∧ okD a = true ∧ okD b = true ∧ k = ds.any fun z => eqD z a) := by
  cases b with
  | str y =>
    cases a with
    | str x => cases e; exact .inl ⟨_, _, rfl, rfl, rfl⟩
    | _ => cases e
  | lst ds =>
    simp only [inD] at e
    split at e
    · rename_i hz
      rw [Bool.and_eq_true] at hz
      cases e
      exact .inr (.inl ⟨ds, rfl, hz.1, hz.2, rfl⟩)
    · cases e
  | tup ds =>
    simp only [inD] at e
    split at e
    · rename_i hz
      rw [Bool.and_eq_true] at hz
      cases e
      exact .inr (.inr ⟨ds, rfl, hz.1, hz.2, rfl⟩)
    · cases e
  | _ => cases e
abbrev rInStr : R2 := fun x y H Q => ∃ i j, x = V.str i ∧ y = V.str j ∧ Q (.bl (!(Builtin.Str.occurrences j i 0 j.length 1).isEmpty)) H
abbrev rNotInStr : R2 := fun x y H Q => ∃ i j, x = V.str i ∧ y = V.str j ∧ Q (.bl (!(!(Builtin.Str.occurrences j i 0 j.length 1).isEmpty))) H
theorem g_in : GivesB c (fun x y H Q => rInStr x y H Q ∨ rInD c.K x y H Q ∨ rInT c.K x y H Q) inD := by
  intro G H a b x y q Q s ha hb e k
  obtain ⟨kk, e0, rfl⟩ := bool0_some e
  rcases inD_cases e0 with ⟨i, j, rfl, rfl, rfl⟩ | ⟨ds, rfl, o1, o2, rfl⟩ | ⟨ds, rfl, o1, o2, rfl⟩
  · cases ha.str; cases hb.str
    exact .inl ⟨i, j, rfl, rfl, stayB s k⟩
  · refine .inr (.inl ⟨py a, pys ds, ha.dp s o1, ?_, okD.shaped o1, ?_, ?_⟩)
    · simpa only [py] using hb.dp s o2
    · simpa only [py] using okD.shaped o2
    · rw [pys_any]; exact stayB s k
  · refine .inr (.inr ⟨py a, pys ds, ha.dp s o1, ?_, okD.shaped o1, ?_, ?_⟩)
    · simpa only [py] using hb.dp s o2
    · simpa only [py] using okD.shaped o2
    · rw [pys_any]; exact stayB s k
theorem g_notIn : GivesB c (fun x y H Q => rNotInStr x y H Q ∨ rNotInD c.K x y H Q ∨ rNotInT c.K x y H Q) (fun a b => (inD a b).map (!·)) := by
  intro G H a b x y q Q s ha hb e k
  obtain ⟨kk, e0, rfl⟩ := bool0_some e
  clear e
  dsimp only at e0
  cases e2 : inD a b with
  | none => rw [e2] at e0; cases e0
  | some k2 =>
    rw [e2] at e0
    cases e0
    rcases inD_cases e2 with ⟨i, j, rfl, rfl, rfl⟩ | ⟨ds, rfl, o1, o2, rfl⟩ | ⟨ds, rfl, o1, o2, rfl⟩
    · cases ha.str; cases hb.str
      exact .inl ⟨i, j, rfl, rfl, stayB s k⟩
    · refine .inr (.inl ⟨py a, pys ds, ha.dp s o1, ?_, okD.shaped o1, ?_, ?_⟩)
      · simpa only [py] using hb.dp s o2
      · simpa only [py] using okD.shaped o2
      · rw [pys_any]; exact stayB s k
    · refine .inr (.inr ⟨py a, pys ds, ha.dp s o1, ?_, okD.shaped o1, ?_, ?_⟩)
      · simpa only [py] using hb.dp s o2
      · simpa only [py] using okD.shaped o2
      · rw [pys_any]; exact stayB s k
/-! ### order, identity -/
theorem RepN.ref_of {G H : Hp} : ∀ {d : D} {v : V}, RepN c G H d v → (d = .non ∧ v = .non) ∨ (∃ b, d = .bl b ∧ v = .bl b) ∨ (v ≠ .non ∧ d ≠ .non ∧ (∀ b, v ≠ .bl b) ∧ ∀ b, d ≠ .bl b)
  | .non, v, h => .inl ⟨rfl, h.non⟩
  | .bl b, v, h => .inr (.inl ⟨b, rfl, h.bl⟩)
  | .int i, v, h => by cases h.int; exact .inr (.inr ⟨by simp, by simp, by simp, by simp⟩)
  | .str i, v, h => by cases h.str; exact .inr (.inr ⟨by simp, by simp, by simp, by simp⟩)
  | .tup ds, v, h => by obtain ⟨a, vs, rfl, _⟩ := h.tup'; exact .inr (.inr ⟨by simp, by simp, by simp, by simp⟩)
  | .lst ds, v, h => by obtain ⟨a, vs, rfl, _⟩ := h; exact .inr (.inr ⟨by simp, by simp, by simp, by simp⟩)
  | .dic ds, v, h => by obtain ⟨a, vs, rfl, _⟩ := h; exact .inr (.inr ⟨by simp, by simp, by simp, by simp⟩)
  | .ins k ds, v, h => by obtain ⟨a, dx, gs, rfl, _⟩ := h; exact .inr (.inr ⟨by simp, by simp, by simp, by simp⟩)
  | .fn j, v, h => by
    simp only [RepN, RepF] at h; subst h
    exact .inr (.inr ⟨by simp, by simp, by simp, by simp⟩)
  | .scr ns, v, h => by
    simp only [RepN, RepF] at h
    obtain ⟨a, rfl, _⟩ := h
    exact .inr (.inr ⟨by simp, by simp, by simp, by simp⟩)
abbrev rIsAll : R2 := fun x y H Q => (y = V.non ∧ Q (.bl (decide (x = .non))) H) ∨ rIsA x y H Q
abbrev rNotAll : R2 := fun x y H Q => (y = V.non ∧ Q (.bl (!decide (x = .non))) H) ∨ rNotA x y H Q
theorem g_is : GivesB c rIsAll (cmpD .Is) := by
  intro G H a b x y q Q s ha hb e k
  obtain ⟨kk, e0, rfl⟩ := bool0_some e
  clear e
  match b, e0 with
  | .non, e0 =>
    cases hb.non
    have hv : kk = decide (x = .non) := by
      simp only [cmpD, Option.some.injEq] at e0
      rcases ha.ref_of with ⟨rfl, rfl⟩ | ⟨b, rfl, rfl⟩ | ⟨n1, n2, _⟩
      · rw [← e0]; simp
      · rw [← e0]; simp
      · rw [decide_eq_false n1, ← e0]
        split
        · exact absurd rfl n2
        · rfl
    subst hv
    exact .inl ⟨rfl, stayB s k⟩
  | .bl b, e0 =>
    cases hb.bl
    have hv : kk = decide (x = .bl b) := by
      simp only [cmpD, Option.some.injEq] at e0
      rcases ha.ref_of with ⟨rfl, rfl⟩ | ⟨b', rfl, rfl⟩ | ⟨_, _, n1, n2⟩
      · rw [← e0]; simp
      · rw [← e0]; simp
      · rw [decide_eq_false (n1 b), ← e0]
        split
        · exact absurd rfl (n2 _)
        · rfl
    subst hv
    exact .inr ⟨b, rfl, stayB s k⟩
theorem g_isNot : GivesB c rNotAll (cmpD .IsNot) := by
  intro G H a b x y q Q s ha hb e k
  obtain ⟨kk, e0, rfl⟩ := bool0_some e
  clear e
  match b, e0 with
  | .non, e0 =>
    cases hb.non
    have hv : kk = !decide (x = .non) := by
      simp only [cmpD, Option.some.injEq] at e0
      rcases ha.ref_of with ⟨rfl, rfl⟩ | ⟨b, rfl, rfl⟩ | ⟨n1, n2, _⟩
      · rw [← e0]; simp
      · rw [← e0]; simp
      · rw [decide_eq_false n1, ← e0]
        split
        · exact absurd rfl n2
        · rfl
    subst hv
    exact .inl ⟨rfl, stayB s k⟩
  | .bl b, e0 =>
    cases hb.bl
    have hv : kk = !decide (x = .bl b) := by
      simp only [cmpD, Option.some.injEq] at e0
      rcases ha.ref_of with ⟨rfl, rfl⟩ | ⟨b', rfl, rfl⟩ | ⟨_, _, n1, n2⟩
      · rw [← e0]; simp
      · rw [← e0]; simp
      · rw [decide_eq_false (n1 b), ← e0]
        split
        · exact absurd rfl (n2 _)
        · rfl
    subst hv
    exact .inr ⟨b, rfl, stayB s k⟩
abbrev rLtS : R2 := fun x y H Q => ∃ i j, x = V.str i ∧ y = V.str j ∧ Q (.bl (decide (i.cps.toList < j.cps.toList))) H
theorem isInts_some : ∀ {ds : List D} {ns : List Int}, isInts ds = some ns → ds = ns.map D.int
  | [], ns, e => by cases e; rfl
  | .int i :: ds, ns, e => by
    simp only [isInts, Option.map_eq_some_iff] at e
    obtain ⟨ms, h, rfl⟩ := e
    rw [isInts_some h]; rfl
  | .non :: _, _, e => by cases e
  | .bl _ :: _, _, e => by cases e
  | .str _ :: _, _, e => by cases e
  | .tup _ :: _, _, e => by cases e
  | .lst _ :: _, _, e => by cases e
  | .dic _ :: _, _, e => by cases e
  | .fn _ :: _, _, e => by cases e
  | .ins _ _ :: _, _, e => by cases e
  | .scr _ :: _, _, e => by cases e
end
end Ev
end
section
set_option Elab.async false
set_option linter.all false
set_option maxRecDepth 100000
set_option maxHeartbeats 4000000
set_option autoImplicit false
namespace Ev
open PySem PySem.Spec PyProof.Rows L2
section
variable {X : Cx} {c : Ct}
theorem int_cases2 {op : CmpOp} {f : Int → Int → Bool} (hf : ∀ a b k, cmpD op a b = some k → (∃ i j, a = .int i ∧ b = .int j ∧ k = f i j)) : GivesB c (rI0 fun i j => .bl (f i j)) (cmpD op) := by
  intro G H a b x y q Q s ha hb e k
  obtain ⟨kk, e0, rfl⟩ := bool0_some e
  obtain ⟨i, j, rfl, rfl, rfl⟩ := hf a b kk e0
  cases ha.int; cases hb.int
  exact ⟨i, j, rfl, rfl, stayB s k⟩
theorem g_le : GivesB c (rI0 fun i j => .bl (decide (i ≤ j))) (cmpD .LtE) := int_cases2 fun a b k e => by
  cases a with
  | int i =>
    cases b with
    | int j => cases e; exact ⟨_, _, rfl, rfl, rfl⟩
    | _ => cases e
  | _ => cases b <;> cases e
theorem g_gt : GivesB c (rI0 fun i j => .bl (decide (j < i))) (cmpD .Gt) := int_cases2 fun a b k e => by
  cases a with
  | int i =>
    cases b with
    | int j => cases e; exact ⟨_, _, rfl, rfl, rfl⟩
    | _ => cases e
  | _ => cases b <;> cases e
theorem g_ge : GivesB c (rI0 fun i j => .bl (decide (j ≤ i))) (cmpD .GtE) := int_cases2 fun a b k e => by
  cases a with
  | int i =>
    cases b with
    | int j => cases e; exact ⟨_, _, rfl, rfl, rfl⟩
    | _ => cases e
  | _ => cases b <;> cases e
theorem g_lt : GivesB c (fun x y H Q => (rI0 fun i j => .bl (decide (i < j))) x y H Q ∨ rLtS x y H Q ∨ rLtT c.K x y H Q) (cmpD .Lt) := by
  intro G H a b x y q Q s ha hb e k
  obtain ⟨kk, e0, rfl⟩ := bool0_some e
  cases a with
  | int i =>
    cases b with
    | int j =>
      cases e0
      cases ha.int; cases hb.int
      exact .inl ⟨i, j, rfl, rfl, stayB s k⟩
    | _ => cases e0
  | str i =>
    cases b with
    | str j =>
      cases e0
      cases ha.str; cases hb.str
      exact .inr (.inl ⟨i, j, rfl, rfl, stayB s k⟩)
    | _ => cases e0
  | tup ds =>
    cases b with
    | tup es =>
      simp only [cmpD] at e0
      split at e0
      · rename_i ns ms h1 h2
        cases e0
        obtain ⟨p, vs, rfl, t1, r1⟩ := ha.tup s
        obtain ⟨p', vs', rfl, t2, r2⟩ := hb.tup s
        rw [isInts_some h1] at r1
        rw [isInts_some h2] at r2
        rw [r1.ints] at t1
        rw [r2.ints] at t2
        exact .inr (.inr ⟨p, p', ns, ms, rfl, rfl, t1, t2, stayB s k⟩)
      · cases e0
    | _ => cases e0
  | _ => cases b <;> cases e0
/-- every comparison -/
theorem g_cmp (hK : X.K = c.K) (hu : X.A.units + 65 < cLine) (op : CmpOp) : ∃ r : R2, OpR X (compareOp op) r ∧ GivesB c r (cmpD op) := by
  have hu64 : X.A.units + 64 < cLine := by omega
  cases op with
  | Eq => exact ⟨_, OpR.or op_strEq (op_eqD hu64), by rw [hK]; exact g_eq hu64⟩
  | NotEq => exact ⟨_, OpR.or op_strNe (op_neD hu64), by rw [hK]; exact g_ne hu64⟩
  | Lt => exact ⟨_, OpR.or op_lt (OpR.or op_lt_str (op_ltT (by omega))), by rw [hK]; exact g_lt⟩
  | LtE => exact ⟨_, op_le, g_le⟩
  | Gt => exact ⟨_, op_gt, g_gt⟩
  | GtE => exact ⟨_, op_ge, g_ge⟩
  | Is => exact ⟨_, OpR.or op_isN op_isA, g_is⟩
  | IsNot => exact ⟨_, OpR.or op_notN op_notA, g_isNot⟩
  | In => exact ⟨_, OpR.or op_in_str (OpR.or (op_inD hu) (op_inT hu)), by rw [hK]; exact g_in⟩
  | NotIn => exact ⟨_, OpR.or op_notin_str (OpR.or (op_notInD hu) (op_notInT hu)), by rw [hK]; exact g_notIn⟩

/-! ### truth -/
theorem truD_ok {G H : Hp} (s : Same G H) : ∀ {d : D} {v : V} {k : Bool}, RepN c G H d v → truD d = some k → TruV c.K v H k
  | .non, v, k, h, e => by cases h.non; cases e; rfl
  | .bl b, v, k, h, e => by cases h.bl; cases e; rfl
  | .int i, v, k, h, e => by cases h.int; cases e; rfl
  | .str x, v, k, h, e => by
    cases h.str
    simp only [truD] at e
    split at e
    · rename_i hz
      cases e
      exact ⟨by rw [LIM_eq]; exact hz, rfl⟩
    · cases e
  | .lst ds, v, k, h, e => by
    obtain ⟨a, vs, rfl, h1, h2⟩ := h
    cases e
    refine .inl ⟨vs, SqL.of h1, ?_⟩
    have := h2.length
    cases ds <;> cases vs <;> simp_all
  | .tup ds, v, k, h, e => by
    obtain ⟨a, vs, rfl, h1, h2⟩ := h.tup s
    cases e
    refine .inr (.inl ⟨vs, h1, ?_⟩)
    have := h2.length
    cases ds <;> cases vs <;> simp_all
  | .dic _, v, k, h, e => by cases e
  | .fn _, v, k, h, e => by cases e
  | .ins _ _, v, k, h, e => by cases e
  | .scr _, v, k, h, e => by cases e

/-! ### -a -/
theorem g_neg : Gives1 c (rU fun i => .int (-i)) negD := by
  intro G H a x q Q s ha e k
  cases a with
  | int i =>
    cases e
    cases ha.int
    exact ⟨i, rfl, stayI s k⟩
  | _ => cases e

/-! ### a[i] -/
theorem g_ix : Gives2 c (rIx c.K) ixD := by
  intro G H a b x y q Q s ha hb e k
  cases b with
  | int i =>
    cases hb.int
    cases a with
    | lst ds =>
      simp only [ixD, Option.map_eq_some_iff] at e
      obtain ⟨d, e, rfl⟩ := e
      obtain ⟨p, vs, rfl, h1, h2⟩ := ha.lst
      unfold atI at e
      cases hj : ixN ds.length i with
      | none => rw [hj] at e; cases e
      | some j =>
        rw [hj] at e
        obtain ⟨v, hv, r⟩ := h2.get (show ds[j]? = some d from e)
        refine .inl ⟨p, vs, i, v, rfl, rfl, SqL.of h1, ?_, stay s r k⟩
        unfold atI
        rw [h2.length, hj]
        exact hv
    | tup ds =>
      simp only [ixD, Option.map_eq_some_iff] at e
      obtain ⟨d, e, rfl⟩ := e
      obtain ⟨p, vs, rfl, h1, h2⟩ := ha.tup s
      unfold atI at e
      cases hj : ixN ds.length i with
      | none => rw [hj] at e; cases e
      | some j =>
        rw [hj] at e
        obtain ⟨v, hv, r⟩ := h2.get (show ds[j]? = some d from e)
        refine .inr (.inl ⟨p, vs, i, v, rfl, rfl, h1, ?_, stay s r k⟩)
        unfold atI
        rw [h2.length, hj]
        exact hv
    | str z =>
      simp only [ixD] at e
      split at e
      · rename_i hz
        simp only [Option.map_eq_some_iff] at e
        obtain ⟨cc, e, rfl⟩ := e
        cases ha.str
        exact .inr (.inr ⟨z, i, cc, rfl, rfl, by rw [LIM_eq]; exact hz, e, stayS s k⟩)
      · cases e
    | _ => cases e
  | _ => cases a <;> cases e

/-! ### slices -/
abbrev rSlAll (K : PySem.W.Frag) : V → Option Int → Option Int → Hp → VK → Prop := fun x lo hi H Q => rSlL K x lo hi H Q ∨ rSlA K x lo hi H Q ∨ rSlS x lo hi H Q
theorem sl_all : SlR X (rSlAll X.K) := SlR.or sl_list (SlR.or sl_tupA sl_str)
theorem RepFs.cut {G : Hp} {ds : List D} {vs : List V} (h : RepFs c G ds vs) (lo hi : Option Int) : RepFs c G (cutL ds lo hi) (cutV vs lo hi) := by
  unfold cutL cutV
  rw [h.length]
  exact (h.drop _).take _
theorem cut_whole {ds : List D} {lo hi : Option Int} (h : HT.sIx ds.length 0 lo = 0 ∧ HT.sIx ds.length ds.length hi = ds.length) : cutL ds lo hi = ds := by
  unfold cutL
  rw [h.1, h.2]
  simp
theorem RepFs.ofInts {G : Hp} : ∀ (ns : List Int), RepFs c G (ns.map D.int) (ns.map V.int)
  | [] => by simp [RepFs]
  | n :: ns => by
    simp only [List.map_cons, RepFs, RepF]
    exact ⟨_, _, rfl, rfl, RepFs.ofInts ns⟩
theorem g_slc (lo hi : Option Int) : Gives1 c (fun x H Q => rSlAll c.K x lo hi H Q) (fun d => slcD d lo hi) := by
  intro G H a x q Q s ha e k
  cases a with
  | lst ds =>
    cases e
    obtain ⟨p, vs, rfl, h1, h2⟩ := ha.lst
    exact .inl ⟨p, vs, rfl, SqL.of h1, newL s (h2.cut lo hi) k⟩
  | scr ns =>
    cases e
    simp only [RepN, RepF] at ha
    obtain ⟨p, rfl, h1⟩ := ha
    exact .inl ⟨p, ns.map V.int, rfl, Same.seq s h1, newL s ((RepFs.ofInts ns).cut lo hi) k⟩
  | tup ds =>
    cases e
    have ha' := ha
    obtain ⟨p, vs, rfl, h1, h2⟩ := ha.tup s
    refine .inr (.inl ⟨p, vs, rfl, h1, fun hw => ?_, fun _ => newT s (h2.cut lo hi) k⟩)
    rw [h2.length] at hw
    refine stay s ?_ k
    rw [cut_whole hw]
    simpa only [RepN] using ha'
  | str z =>
    simp only [slcD] at e
    split at e
    · rename_i hz
      cases e
      cases ha.str
      refine .inr (.inr ⟨z, rfl, by rw [LIM_eq]; exact hz, ?_⟩)
      have e : cutS z lo hi = ⟨(cutL z.cps.toList lo hi).toArray⟩ := by
        unfold cutS cutL
        rw [Array.length_toList]
        rfl
      rw [e]
      exact stayS s k
    · cases e
  | _ => cases e

/-! ### built-in functions -/
theorem CallR.or {f : Value} {r r' : List V → Hp → VK → Prop} (h : CallR X f r) (h' : CallR X f r') : CallR X f (fun vs H Q => r vs H Q ∨ r' vs H Q) := by
  intro pins s σ H vs us Q I rv q
  rcases q with q | q
  · exact h pins s σ H vs us Q I rv q
  · exact h' pins s σ H vs us Q I rv q
theorem isStrs_some : ∀ {ds : List D} {ns : List Str}, isStrs ds = some ns → ds = ns.map D.str
  | [], ns, e => by cases e; rfl
  | .str i :: ds, ns, e => by
    simp only [isStrs, Option.map_eq_some_iff] at e
    obtain ⟨ms, h, rfl⟩ := e
    rw [isStrs_some h]; rfl
  | .non :: _, _, e => by cases e
  | .bl _ :: _, _, e => by cases e
  | .int _ :: _, _, e => by cases e
  | .tup _ :: _, _, e => by cases e
  | .lst _ :: _, _, e => by cases e
  | .dic _ :: _, _, e => by cases e
  | .fn _ :: _, _, e => by cases e
  | .ins _ _ :: _, _, e => by cases e
  | .scr _ :: _, _, e => by cases e
theorem isBls_some : ∀ {ds : List D} {ns : List Bool}, isBls ds = some ns → ds = ns.map D.bl
  | [], ns, e => by cases e; rfl
  | .bl i :: ds, ns, e => by
    simp only [isBls, Option.map_eq_some_iff] at e
    obtain ⟨ms, h, rfl⟩ := e
    rw [isBls_some h]; rfl
  | .non :: _, _, e => by cases e
  | .str _ :: _, _, e => by cases e
  | .int _ :: _, _, e => by cases e
  | .tup _ :: _, _, e => by cases e
  | .lst _ :: _, _, e => by cases e
  | .dic _ :: _, _, e => by cases e
  | .fn _ :: _, _, e => by cases e
  | .ins _ _ :: _, _, e => by cases e
  | .scr _ :: _, _, e => by cases e
/-- one argument -/
theorem gives_one {r : List V → Hp → VK → Prop} {p : List D → Option (D × Nat)} (h1 : ∀ ds q, p ds = some q → ∃ d, ds = [d])
    (g : ∀ (G H : Hp) (a : D) (x : V) (q : D × Nat) (Q : VK), Same G H → RepN c G H a x → p [a] = some q → (∀ G' H' v, Ext G H G' H' → NewR c G H G' H' q v → Q v H') → r [x] H Q) : Gives c r p := by
  intro G H ds vs q Q s hl hr e k
  obtain ⟨d, rfl⟩ := h1 ds q e
  match vs, hl with
  | [x], _ => exact g G H d x q Q s (hr 0 d x rfl rfl) e k
abbrev rLenA (K : PySem.W.Frag) : List V → Hp → VK → Prop := fun xs H Q => (∃ p ys, xs = [V.ref p] ∧ (SqL K H p ys ∨ SqT K H p ys) ∧ Q (.int ys.length) H) ∨ ∃ z, xs = [V.str z] ∧ z.length ≤ sizeLine ∧ Q (.int z.length) H
theorem call_lenA : CallR X (.builtin "len") (rLenA X.K) := CallR.or call_len_seq call_len_str
theorem g_len : Gives1 c (fun x H Q => rLenA c.K [x] H Q) lenD := by
  intro G H a x q Q s ha e k
  cases a with
  | lst ds =>
    cases e
    obtain ⟨p, vs, rfl, h1, h2⟩ := ha.lst
    exact .inl ⟨p, vs, rfl, .inl (SqL.of h1), by rw [h2.length]; exact stayI s k⟩
  | tup ds =>
    cases e
    obtain ⟨p, vs, rfl, h1, h2⟩ := ha.tup s
    exact .inl ⟨p, vs, rfl, .inr h1, by rw [h2.length]; exact stayI s k⟩
  | str z =>
    simp only [lenD] at e
    split at e
    · rename_i hz
      cases e
      cases ha.str
      exact .inr ⟨z, rfl, by rw [LIM_eq]; exact hz, stayI s k⟩
    · cases e
  | _ => cases e
abbrev rAbs : List V → Hp → VK → Prop := fun xs H Q => ∃ i, xs = [V.int i] ∧ Q (.int (if i < 0 then -i else i)) H
theorem g_abs : Gives1 c (fun x H Q => rAbs [x] H Q) absD := by
  intro G H a x q Q s ha e k
  cases a with
  | int i => cases e; cases ha.int; exact ⟨i, rfl, stayI s k⟩
  | _ => cases e
abbrev rInt1 : List V → Hp → VK → Prop := fun xs H Q => (∃ i, xs = [V.int i] ∧ Q (.int i) H) ∨ ∃ k, xs = [V.bl k] ∧ Q (.int (if k then 1 else 0)) H
abbrev rIntS : List V → Hp → VK → Prop := fun xs H Q => ∃ a n, xs = [V.str a] ∧ PySem.intText? a = some n ∧ a.length ≤ 640 ∧ Q (.int n) H
theorem g_int : Gives1 c (fun x H Q => rInt1 [x] H Q ∨ rIntS [x] H Q) intD := by
  intro G H a x q Q s ha e k
  cases a with
  | int i => cases e; cases ha.int; exact .inl (.inl ⟨i, rfl, stayI s k⟩)
  | bl i => cases e; cases ha.bl; exact .inl (.inr ⟨i, rfl, stayI s k⟩)
  | str z =>
    simp only [intD] at e
    split at e
    · rename_i n h
      split at e
      · rename_i hz
        cases e
        cases ha.str
        exact .inr ⟨z, n, rfl, h, hz, stayI s k⟩
      · cases e
    · cases e
  | _ => cases e
abbrev rStrI : List V → Hp → VK → Prop := fun xs H Q => ∃ i, xs = [V.int i] ∧ i.natAbs.log2 < 1920 ∧ Q (.str (toString i)) H
theorem g_str : Gives1 c (fun x H Q => rStrI [x] H Q) strD := by
  intro G H a x q Q s ha e k
  cases a with
  | int i =>
    simp only [strD] at e
    split at e
    · rename_i hz
      cases e
      cases ha.int
      exact ⟨i, rfl, hz, stayS s k⟩
    · cases e
  | _ => cases e
theorem g_sum : Gives1 c (fun x H Q => rSum c.K [x] H Q) sumD := by
  intro G H a x q Q s ha e k
  cases a with
  | lst ds =>
    simp only [sumD, Option.map_eq_some_iff] at e
    obtain ⟨ns, h, rfl⟩ := e
    obtain ⟨p, vs, rfl, h1, h2⟩ := ha.lst
    rw [isInts_some h] at h2
    rw [h2.ints] at h1
    exact ⟨p, ns, rfl, SqL.of h1, stayI s k⟩
  | _ => cases e
theorem maxI_spec : ∀ (ns : List Int) (m : Int), (maxI ns m = m ∨ maxI ns m ∈ ns) ∧ m ≤ maxI ns m ∧ ∀ y ∈ ns, y ≤ maxI ns m
  | [], m => ⟨.inl rfl, Int.le_refl _, fun _ h => nomatch h⟩
  | i :: r, m => by
    simp only [maxI]
    split
    · rename_i h
      obtain ⟨a, b, d⟩ := maxI_spec r i
      refine ⟨?_, by omega, fun y hy => ?_⟩
      · rcases a with a | a
        · exact .inr (by rw [a]; exact List.mem_cons_self)
        · exact .inr (List.mem_cons_of_mem _ a)
      · rcases List.mem_cons.mp hy with e | hy
        · subst e; exact b
        · exact d y hy
    · rename_i h
      obtain ⟨a, b, d⟩ := maxI_spec r m
      refine ⟨?_, b, fun y hy => ?_⟩
      · rcases a with a | a
        · exact .inl a
        · exact .inr (List.mem_cons_of_mem _ a)
      · rcases List.mem_cons.mp hy with e | hy
        · subst e; omega
        · exact d y hy
theorem minI_spec : ∀ (ns : List Int) (m : Int), (minI ns m = m ∨ minI ns m ∈ ns) ∧ minI ns m ≤ m ∧ ∀ y ∈ ns, minI ns m ≤ y
  | [], m => ⟨.inl rfl, Int.le_refl _, fun _ h => nomatch h⟩
  | i :: r, m => by
    simp only [minI]
    split
    · rename_i h
      obtain ⟨a, b, d⟩ := minI_spec r i
      refine ⟨?_, by omega, fun y hy => ?_⟩
      · rcases a with a | a
        · exact .inr (by rw [a]; exact List.mem_cons_self)
        · exact .inr (List.mem_cons_of_mem _ a)
      · rcases List.mem_cons.mp hy with e | hy
        · subst e; exact b
        · exact d y hy
    · rename_i h
      obtain ⟨a, b, d⟩ := minI_spec r m
      refine ⟨?_, b, fun y hy => ?_⟩
      · rcases a with a | a
        · exact .inl a
        · exact .inr (List.mem_cons_of_mem _ a)
      · rcases List.mem_cons.mp hy with e | hy
        · subst e; omega
        · exact d y hy
theorem g_max : Gives1 c (fun x H Q => rMax c.K [x] H Q) maxD := by
  intro G H a x q Q s ha e k
  cases a with
  | lst ds =>
    simp only [maxD] at e
    split at e
    · rename_i n ns h
      cases e
      obtain ⟨p, vs, rfl, h1, h2⟩ := ha.lst
      rw [isInts_some h] at h2
      rw [h2.ints] at h1
      refine ⟨p, n :: ns, rfl, SqL.of h1, by simp, fun m hm hy => ?_⟩
      obtain ⟨a1, a2, a3⟩ := maxI_spec ns n
      have em : m = maxI ns n := by
        have u1 : maxI ns n ≤ m := hy _ (by
          rcases a1 with a1 | a1
          · rw [a1]; exact List.mem_cons_self
          · exact List.mem_cons_of_mem _ a1)
        have u2 : m ≤ maxI ns n := by
          rcases List.mem_cons.mp hm with e | hm
          · subst e; exact a2
          · exact a3 m hm
        omega
      rw [em]
      exact stayI s k
    · cases e
  | _ => cases e
theorem g_min : Gives1 c (fun x H Q => rMin c.K [x] H Q) minD := by
  intro G H a x q Q s ha e k
  cases a with
  | lst ds =>
    simp only [minD] at e
    split at e
    · rename_i n ns h
      cases e
      obtain ⟨p, vs, rfl, h1, h2⟩ := ha.lst
      rw [isInts_some h] at h2
      rw [h2.ints] at h1
      refine ⟨p, n :: ns, rfl, SqL.of h1, by simp, fun m hm hy => ?_⟩
      obtain ⟨a1, a2, a3⟩ := minI_spec ns n
      have em : m = minI ns n := by
        have u1 : m ≤ minI ns n := hy _ (by
          rcases a1 with a1 | a1
          · rw [a1]; exact List.mem_cons_self
          · exact List.mem_cons_of_mem _ a1)
        have u2 : minI ns n ≤ m := by
          rcases List.mem_cons.mp hm with e | hm
          · subst e; exact a2
          · exact a3 m hm
        omega
      rw [em]
      exact stayI s k
    · cases e
  | _ => cases e
theorem g_all : Gives1 c (fun x H Q => rAll c.K [x] H Q) allD := by
  intro G H a x q Q s ha e k
  cases a with
  | lst ds =>
    simp only [allD, Option.map_eq_some_iff] at e
    obtain ⟨ns, h, rfl⟩ := e
    obtain ⟨p, vs, rfl, h1, h2⟩ := ha.lst
    rw [isBls_some h] at h2
    rw [h2.bls] at h1
    exact ⟨p, ns, rfl, SqL.of h1, stayB s k⟩
  | _ => cases e
theorem g_any : Gives1 c (fun x H Q => rAny c.K [x] H Q) anyD := by
  intro G H a x q Q s ha e k
  cases a with
  | lst ds =>
    simp only [anyD, Option.map_eq_some_iff] at e
    obtain ⟨ns, h, rfl⟩ := e
    obtain ⟨p, vs, rfl, h1, h2⟩ := ha.lst
    rw [isBls_some h] at h2
    rw [h2.bls] at h1
    exact ⟨p, ns, rfl, SqL.of h1, stayB s k⟩
  | _ => cases e
abbrev rTuple (K : PySem.W.Frag) : List V → Hp → VK → Prop := fun xs H Q => ∃ p ys, xs = [V.ref p] ∧ ((SqL K H p ys ∧ ∀ l, H l = none → Q (.ref l) (upd H l (.tup ys))) ∨ (SqT K H p ys ∧ Q (.ref p) H))
theorem g_tuple : Gives1 c (fun x H Q => rTuple c.K [x] H Q) tupleD := by
  intro G H a x q Q s ha e k
  cases a with
  | lst ds =>
    cases e
    obtain ⟨p, vs, rfl, h1, h2⟩ := ha.lst
    exact ⟨p, vs, rfl, .inl ⟨SqL.of h1, newT s h2 k⟩⟩
  | tup ds =>
    cases e
    have ha' := ha
    obtain ⟨p, vs, rfl, h1, h2⟩ := ha.tup s
    exact ⟨p, vs, rfl, .inr ⟨h1, stay s (by simpa only [RepN] using ha') k⟩⟩
  | _ => cases e
abbrev rList (K : PySem.W.Frag) : List V → Hp → VK → Prop := fun xs H Q => ∃ p ys, xs = [V.ref p] ∧ (SqL K H p ys ∨ SqT K H p ys) ∧ ∀ l, H l = none → Q (.ref l) (upd H l (.lst ys))
theorem sortI_perm (ns : List Int) : (sortI ns).Perm ns := List.mergeSort_perm _ _
theorem sortI_pair (ns : List Int) : (sortI ns).Pairwise (· ≤ ·) := by
  have h := List.pairwise_mergeSort (le := fun a b : Int => decide (a ≤ b)) (fun a b c h1 h2 => by simp only [decide_eq_true_eq] at *; omega) (fun a b => by simp only [Bool.or_eq_true, decide_eq_true_eq]; omega) ns
  exact h.imp fun h => of_decide_eq_true h
theorem sorted_uniq : ∀ {xs ys : List Int}, xs.Perm ys → xs.Pairwise (· ≤ ·) → ys.Pairwise (· ≤ ·) → xs = ys := by
  intro xs ys p h1 h2
  exact p.eq_of_pairwise (fun a b _ _ h h' => Int.le_antisymm h h') h1 h2
theorem g_sorted : Gives1 c (fun x H Q => rSortedI c.K [x] H Q) sortedD := by
  intro G H a x q Q s ha e k
  cases a with
  | lst ds =>
    simp only [sortedD] at e
    split at e
    · rename_i ns h
      cases e
      obtain ⟨p, vs, rfl, h1, h2⟩ := ha.lst
      rw [isInts_some h] at h2
      rw [h2.ints] at h1
      refine ⟨p, ns, rfl, SqL.of h1, fun ns' p' hp hs hn => ?_⟩
      have e : ns' = sortI ns := sorted_uniq (hp.trans (sortI_perm ns).symm) hs (sortI_pair ns)
      rw [e]
      exact newL s (RepFs.ofInts _) k p' hn
    · cases e
  | _ => cases e
end
end Ev
end
section
set_option Elab.async false
set_option linter.all false
set_option maxRecDepth 100000
set_option maxHeartbeats 4000000
set_option autoImplicit false
namespace Ev
open PySem PySem.Spec PyProof.Rows L2

/-- a piece of syntax does as its evaluation says: as a value, as a test, as an operand -/
structure Snd (X : Cx) (F : Fm) (W : WXt) (r : EvR) (e : Expr) : Prop where
  f : PE X e (tV F W r.f)
  t : PT X e (tT F W r.t)
  o : PE X e (tO F W r.o)
  st : ∀ es env, starEach (e :: es) env = (false, eval e env) :: starEach es env
structure SndA (X : Cx) (F : Fm) (W : WXt) (r : EvR) (es : List Expr) : Prop where
  ao : PA X es (tAo F W r.ao)
  al : PA X es (tAl F W r.al)
  ca : ∀ bs, PA X es (tAo F W (r.ca bs))
  pl : ∀ pos, (backTo pos (starEach es X.env)).any (·.1) = false
  hd : ∀ e es', es = e :: es' → starEach (e :: es') X.env = (false, eval e X.env) :: starEach es' X.env

section
variable {X : Cx} {F : Fm} {W : WXt}
theorem bad_out {α β : Type} {R : RT α β} {σ : L2.St} {Q : β → Hp → Prop} {G H : Hp} {fp : Fps} (h : OutP F W R σ Q G H fp .bad) : False := h
theorem no_t {e : Expr} : PT X e (tT F W fun _ => .bad) := ⟨fun pins s σ H Q I ⟨G, ρ, fp, E, h⟩ => (bad_out h).elim⟩
theorem no_f {e : Expr} : PE X e (tV F W fun _ => .bad) := ⟨fun pins s σ H Q I ⟨G, ρ, fp, E, h⟩ => (bad_out h).elim⟩
theorem no_o {e : Expr} : PE X e (tO F W fun _ => .bad) := ⟨fun pins s σ H Q I ⟨G, ρ, fp, E, h⟩ => (bad_out h).elim⟩
theorem no_a {e : List Expr} : PA X e (tAo F W fun _ => .bad) := ⟨fun pos pins s σ H Q I ⟨G, ρ, fp, E, h⟩ => (bad_out h).elim⟩
theorem no_l {e : List Expr} : PA X e (tAl F W fun _ => .bad) := ⟨fun pos pins s σ H Q I ⟨G, ρ, fp, E, h⟩ => (bad_out h).elim⟩
def notVar : CE → Bool
  | .var _ => false
  | _ => true
theorem opd_of {ce : CE} (h : notVar ce = true) (f : Rho → Res (D × Nat)) : opd ce f = fun ρ => frzV (f ρ) := by
  cases ce <;> first | rfl | (cases h)
theorem tO_of {e : Expr} {ce : CE} {f : Rho → Res (D × Nat)} (h : PE X e (tV F W f)) (hv : notVar ce = true) : PE X e (tO F W (opd ce f)) := by
  rw [opd_of hv]
  exact PE.weak h tO_frz
/-- a test by a value's truth -/
theorem tT_tru {e : Expr} {g : Rho → Res Opd} (hK : X.K = F.c.K) (h : PE X e (tO F W g)) (ht : ∀ whole, isTrue e X.env whole = (do let v ← whole; standAt e.pos; holding [v] (truthy v))) :
    PT X e (tT F W fun ρ => (g ρ).bind tstO) := by
  refine PT.weak (pt_truth h ht) fun σ H Q ⟨G, ρ, fp, E, hh⟩ => ?_
  refine tP.bind back_bool E hh fun o ρ1 G1 H1 fp1 x e1 ad E1 r h1 => ?_
  unfold tstO at h1
  split at h1
  · rename_i d hd
    have rn := E1.rd r hd
    cases hk : truD d with
    | none => rw [hk] at h1; exact h1.elim
    | some k =>
      rw [hk] at h1
      refine ⟨k, by rw [hK]; exact truD_ok E1.le rn hk, h1 G1 H1 fp1 k Adv.refl E1 rfl⟩
  · exact h1.elim
/-- a comparison, as a test -/
theorem tT_bool {e : Expr} {f : Rho → Res (D × Nat)} {ce : CE} {te : TE} (hv : notVar ce = true) (h : PT X e (tTest te)) (w : ∀ σ H Q, tV F W f σ H Q → te σ H Q)
    (hb : ∀ ρ p ρ1, f ρ = .ok p ρ1 → ∃ b, p = (.bl b, 0)) : PT X e (tT F W fun ρ => (opd ce f ρ).bind tstO) := by
  rw [opd_of hv]
  refine PT.weak h fun σ H Q ⟨G, ρ, fp, E, hh⟩ => w σ H _ ?_
  refine ⟨G, ρ, fp, E, ?_⟩
  cases e1 : f ρ with
  | exc x ρ1 =>
    simp only [frzV, e1, Res.bind] at hh
    exact hh
  | bad => simp only [frzV, e1, Res.bind] at hh; exact hh
  | ok p ρ1 =>
    obtain ⟨b, rfl⟩ := hb ρ p ρ1 e1
    simp only [frzV, e1, Res.bind, tstO, rdO, truD, lift] at hh
    intro G1 H1 fp1 v ad E1 r
    obtain ⟨q, ⟨_, r⟩, _⟩ := r
    simp only [RepF] at r
    subst r
    exact ⟨b, rfl, hh G1 H1 fp1 b ad E1 rfl⟩
theorem snd_mk {e : Expr} {ce : CE} {f : Rho → Res (D × Nat)} (hK : X.K = F.c.K) (h : PE X e (tV F W f)) (hv : notVar ce = true) (ht : ∀ whole, isTrue e X.env whole = (do let v ← whole; standAt e.pos; holding [v] (truthy v)))
    (hs : ∀ es env, starEach (e :: es) env = (false, eval e env) :: starEach es env) : Snd X F W (mkR ce f) e :=
  ⟨h, tT_tru hK (tO_of h hv) ht, tO_of h hv, hs⟩

/-! ### leaves -/
theorem snd_var {i : Nat} {x : Str} {pos : Pos} (hK : X.K = F.c.K) (hN : X.N[i]? = some x) (hv : Vis X.env.scope x) (hd : (x == ("__debug__" : Str)) = false) (hcd : (x == ("__classdict__" : Str)) = false) : Snd X F W (mkR (.var i) (varF i)) (.Name x pos) :=
  have h := pe_var (pos := pos) hN hv hd hcd
  have ho : PE X (.Name x pos) (tO F W (varO i)) := PE.weak h tO_var
  ⟨PE.weak h tV_var, tT_tru hK ho fun _ => rfl, ho, fun _ _ => rfl⟩
theorem snd_non {j pos} (hK : X.K = F.c.K) : Snd X F W (mkR .non (pureF .non)) (.Constant .none j pos) := snd_mk hK (PE.weak pe_non (tV_pure fun _ => by simp only [RepF])) rfl (fun _ => rfl) fun _ _ => rfl
theorem snd_bl {b j pos} (hK : X.K = F.c.K) : Snd X F W (mkR (.bl b) (pureF (.bl b))) (.Constant (.bool b) j pos) := snd_mk hK (PE.weak pe_bl (tV_pure fun _ => by simp only [RepF])) rfl (fun _ => rfl) fun _ _ => rfl
theorem snd_int {b j pos} (hK : X.K = F.c.K) : Snd X F W (mkR (.int b) (pureF (.int b))) (.Constant (.int b) j pos) := snd_mk hK (PE.weak pe_int (tV_pure fun _ => by simp only [RepF])) rfl (fun _ => rfl) fun _ _ => rfl
theorem snd_str {b j pos} (hK : X.K = F.c.K) : Snd X F W (mkR (.str b) (pureF (.str b))) (.Constant (.str b) j pos) := snd_mk hK (PE.weak pe_str (tV_pure fun _ => by simp only [RepF])) rfl (fun _ => rfl) fun _ _ => rfl
theorem snd_con {x : Str} {d : D} {v : V} {u : Value} {pos : Pos} (hK : X.K = F.c.K) (hg : Gl X x) (hm : X.mg x = some u) (r : RelV v u) (hr : ∀ G, RepF F.c G d v) (hd : (x == ("__debug__" : Str)) = false) : Snd X F W (mkR (.con x) (pureF d)) (.Name x pos) :=
  snd_mk hK (PE.weak (pe_glob hg hm r hd) (tV_pure hr)) rfl (fun _ => rfl) fun _ _ => rfl
theorem snd_fnv {x : Str} {j : Nat} {pos : Pos} (hK : X.K = F.c.K) (hg : Gl X x) (hm : X.mg x = some (.ref (F.c.fa j))) (hd : (x == ("__debug__" : Str)) = false) : Snd X F W (mkR (.fnv j) (pureF (.fn j))) (.Name x pos) :=
  snd_mk hK (PE.weak (pe_glob (v := .ref (F.c.fa j)) hg hm rfl hd) (tV_pure fun _ => by simp only [RepF])) rfl (fun _ => rfl) fun _ _ => rfl

/-! ### two operands -/
theorem two_w {A B : EvR} {r : R2} {p : D → D → Option (D × Nat)} (g : Gives2 F.c r p) : ∀ σ H Q, tV F W (fun ρ => (A.o ρ).bind fun x ρ1 => (B.o ρ1).bind fun y ρ2 => bltO (val2 p) [x, y] ρ2) σ H Q → tOp r (tO F W A.o) (tO F W B.o) σ H Q := by
  intro σ H Q ⟨G, ρ, fp, E, h⟩
  refine tP.bind back_res E h fun oa ρ1 G1 H1 fp1 x e ad E1 r1 h1 => ?_
  refine tP.bind back_res E1 h1 fun ob ρ2 G2 H2 fp2 y e2 ad2 E2 r2 h2 => ?_
  obtain ⟨_, _, e, z⟩ := bltO_ok rfl g.gives E2 (H0 := H1) (fp0 := fp1) (OpdRs.cons (r1.adv ad2.gg) (OpdRs.cons r2 .nil)) h2
  cases e
  exact z
theorem one_w {A : EvR} {r : V → Hp → VK → Prop} {p : D → Option (D × Nat)} (g : Gives1 F.c r p) : ∀ σ H Q, tV F W (fun ρ => (A.o ρ).bind fun x ρ1 => bltO (val1 p) [x] ρ1) σ H Q → tUn r (tO F W A.o) σ H Q := by
  intro σ H Q ⟨G, ρ, fp, E, h⟩
  refine tP.bind back_res E h fun oa ρ1 G1 H1 fp1 x e ad E1 r1 h1 => ?_
  obtain ⟨_, e, z⟩ := bltO_ok rfl g.gives E1 (H0 := H1) (fp0 := fp1) (OpdRs.cons r1 .nil) h1
  cases e
  exact z
theorem bltO_bool {p : D → D → Option Bool} {os : List Opd} {ρ ρ1 : Rho} {q : D × Nat} (h : bltO (val2 fun a b => bool0 (p a b)) os ρ = .ok q ρ1) : ∃ b, q = (.bl b, 0) := by
  unfold bltO at h
  split at h
  · rename_i ds _
    cases e : val2 (fun a b => bool0 (p a b)) ds with
    | none => rw [e] at h; cases h
    | some z =>
      rw [e] at h
      cases h
      match ds, e with
      | [a, b], e =>
        obtain ⟨k, _, rfl⟩ := bool0_some e
        exact ⟨k, rfl⟩
  · cases h
theorem bind_ok {α β : Type} {r : Res α} {f : α → Rho → Res β} {b : β} {ρ1 : Rho} (h : r.bind f = .ok b ρ1) : ∃ a ρ0, r = .ok a ρ0 ∧ f a ρ0 = .ok b ρ1 := by
  cases r with
  | ok a ρ0 => exact ⟨a, ρ0, rfl, h⟩
  | exc x ρ0 => cases h
  | bad => cases h
variable {a b e1 e2 e3 : Expr} {A B C : EvR} {pos : Pos} {ca cb cc : CE}
theorem snd_bin (hK : X.K = F.c.K) {op : Operator} (ha : Snd X F W A a) (hb : Snd X F W B b) : Snd X F W (mkR (.bin op ca cb) fun ρ => (A.o ρ).bind fun x ρ1 => (B.o ρ1).bind fun y ρ2 => bltO (val2 (binD op)) [x, y] ρ2) (.BinOp a op b pos) := by
  obtain ⟨r, hr, g⟩ := g_bin hK op
  exact snd_mk hK (PE.weak (pe_op hr ha.o hb.o) (two_w g)) rfl (fun _ => rfl) fun _ _ => rfl
theorem snd_neg (hK : X.K = F.c.K) (ha : Snd X F W A a) : Snd X F W (mkR (.neg ca) fun ρ => (A.o ρ).bind fun x ρ1 => bltO (val1 negD) [x] ρ1) (.UnaryOp .USub a pos) :=
  snd_mk hK (PE.weak (pe_un un_neg ha.o) (one_w g_neg)) rfl (fun _ => rfl) fun _ _ => rfl
theorem snd_cmp (hK : X.K = F.c.K) (hu : X.A.units + 65 < cLine) {op : CmpOp} (ha : Snd X F W A a) (hb : Snd X F W B b) (hm : behindInMarks op b = false) :
    Snd X F W (mkR (.cmp op ca cb) fun ρ => (A.o ρ).bind fun x ρ1 => (B.o ρ1).bind fun y ρ2 => bltO (val2 fun p q => bool0 (cmpD op p q)) [x, y] ρ2) (.Compare a [op] [b] pos) := by
  obtain ⟨r, hr, g⟩ := g_cmp hK hu op
  have h := PE.weak (pe_cmpR (pos := pos) hr ha.o hb.o hm) (two_w (F := F) (W := W) g)
  refine ⟨h, tT_bool (ce := .cmp op ca cb) rfl (pt_cmpR hr ha.o hb.o hm) (two_w g) fun ρ p ρ1 e => ?_, tO_of (ce := .cmp op ca cb) h rfl, fun _ _ => rfl⟩
  obtain ⟨_, _, _, e⟩ := bind_ok e
  obtain ⟨_, _, _, e⟩ := bind_ok e
  exact bltO_bool e
/-- an operation, and then something else -/
theorem bltO_bind {α β : Type} {R : RT α β} {f : List D → Option (D × Nat)} {os : List Opd} {r : List V → Hp → VK → Prop} {vs : List V} {k : D × Nat → Rho → Res α} {Q : β → Hp → Prop} {K : V → Hp → Prop} {σ : L2.St} {G H H0 : Hp} {ρ : Rho} {fp fp0 : Fps}
    (bk : Back R) (g : Gives F.c r f) (E : EnvOk F G H σ ρ fp) (ro : OpdRs F σ H0 fp0 G H fp os vs) (h : OutP F W R σ Q G H fp ((bltO f os ρ).bind k))
    (hk : ∀ q G' H' v, Ext G H G' H' → NewR F.c G H G' H' q v → EnvOk F G' H' σ ρ fp → OutP F W R σ Q G' H' fp (k q ρ) → K v H') : r vs H K := by
  unfold bltO at h
  split at h
  · rename_i ds e
    obtain ⟨q1, q2⟩ := E.rds ro e
    cases e2 : f ds with
    | none => rw [e2] at h; exact h.elim
    | some q =>
      rw [e2] at h
      refine g G H ds vs q K E.le q1 q2 e2 fun G' H' v x n => ?_
      exact hk q G' H' v x n (E.ext x) (OutP.mono bk x.adv h)
  · exact h.elim
theorem chn_w {o1 o2 : CmpOp} {r r' : R2} (g : Gives2 F.c r fun p q => bool0 (cmpD o1 p q)) (g' : Gives2 F.c r' fun p q => bool0 (cmpD o2 p q)) : ∀ σ H Q,
    tV F W (fun ρ => (A.o ρ).bind fun x ρ1 => (frzV (B.f ρ1)).bind fun y ρ2 => (bltO (val2 fun p q => bool0 (cmpD o1 p q)) [x, y] ρ2).bind fun z ρ3 => match z.1 with
      | .bl true => (C.o ρ3).bind fun w ρ4 => bltO (val2 fun p q => bool0 (cmpD o2 p q)) [y, w] ρ4
      | .bl false => .ok (.bl false, 0) ρ3
      | _ => .bad) σ H Q → tChain r r' (tO F W A.o) (tO F W fun ρ => frzV (B.f ρ)) (tO F W C.o) σ H Q := by
  intro σ H Q ⟨G, ρ, fp, E, h⟩
  refine tP.bind back_res E h fun oa ρ1 G1 H1 fp1 x e ad E1 r1 h1 => ?_
  refine tP.bind back_res E1 h1 fun ob ρ2 G2 H2 fp2 y e2 ad2 E2 r2 h2 => ?_
  have z := bltO_bind (K := fun z H3 => ∃ k, z = V.bl k ∧ if k = true then (tO F W C.o) σ H3 fun w H4 => r' y w H4 Q else Q (.bl false) H3) back_res g.gives E2 (H0 := H1) (fp0 := fp1) (OpdRs.cons (r1.adv ad2.gg) (OpdRs.cons r2 .nil)) h2 fun q G3 H3 v x3 n E3 h3 => by
    obtain ⟨d, l⟩ := q
    cases d with
    | bl k =>
      have hv : v = .bl k := by
        rcases n with ⟨_, n⟩ | ⟨_, a, _, _, _, n⟩
        · simpa only [RepF] using n
        · exact n.elim
      refine ⟨k, hv, ?_⟩
      cases k with
      | true =>
        rw [if_pos rfl]
        refine tP.bind back_res E3 h3 fun oc ρ4 G4 H4 fp4 w e4 ad4 E4 r4 h4 => ?_
        have ry : OpdR F σ H3 fp2 G4 H4 fp4 ob y := OpdR.adv r2 (x3.gg.trans ad4.gg)
        obtain ⟨_, _, e, z⟩ := bltO_ok rfl g'.gives E4 (H0 := H3) (fp0 := fp2) (OpdRs.cons ry (OpdRs.cons r4 .nil)) h4
        cases e
        exact z
      | false =>
        rw [if_neg (by simp)]
        exact h3 G3 H3 fp2 _ Adv.refl E3 (ResR.of (by simp only [RepF]))
    | _ => exact h3.elim
  obtain ⟨_, _, e, z⟩ := z
  cases e
  exact z
end
end Ev
end
section
set_option Elab.async false
set_option linter.all false
set_option maxRecDepth 100000
set_option maxHeartbeats 4000000
set_option autoImplicit false
namespace Ev
open PySem PySem.Spec PyProof.Rows L2
section
variable {X : Cx} {F : Fm} {W : WXt}
variable {a b e1 e2 e3 : Expr} {A B C : EvR} {pos : Pos} {ca cb cc : CE}
theorem frz_of (ha : Snd X F W A a) : PE X a (tO F W fun ρ => frzV (A.f ρ)) := PE.weak ha.f tO_frz
theorem snd_chn (hK : X.K = F.c.K) (hu : X.A.units + 65 < cLine) {o1 o2 : CmpOp} {c : Expr} (ha : Snd X F W A a) (hb : Snd X F W B b) (hc : Snd X F W C c) (hm : lastMarks [o1, o2] [b, c] = false) :
    Snd X F W (mkR (.chn o1 o2 ca cb cc) fun ρ => (A.o ρ).bind fun x ρ1 => (frzV (B.f ρ1)).bind fun y ρ2 => (bltO (val2 fun p q => bool0 (cmpD o1 p q)) [x, y] ρ2).bind fun z ρ3 => match z.1 with
      | .bl true => (C.o ρ3).bind fun w ρ4 => bltO (val2 fun p q => bool0 (cmpD o2 p q)) [y, w] ρ4
      | .bl false => .ok (.bl false, 0) ρ3
      | _ => .bad) (.Compare a [o1, o2] [b, c] pos) := by
  obtain ⟨r, hr, g⟩ := g_cmp hK hu o1
  obtain ⟨r', hr', g'⟩ := g_cmp hK hu o2
  have h := PE.weak (pe_chain (pos := pos) hr hr' ha.o (frz_of hb) hc.o hm) (chn_w g g')
  refine ⟨h, tT_bool (ce := .chn o1 o2 ca cb cc) rfl (pt_chain hr hr' ha.o (frz_of hb) hc.o hm) (chn_w g g') fun ρ p ρ1 e => ?_, tO_of (ce := .chn o1 o2 ca cb cc) h rfl, fun _ _ => rfl⟩
  obtain ⟨_, _, _, e⟩ := bind_ok e
  obtain ⟨_, _, _, e⟩ := bind_ok e
  obtain ⟨z, _, _, e⟩ := bind_ok e
  split at e
  · obtain ⟨_, _, _, e⟩ := bind_ok e
    exact bltO_bool e
  · cases e; exact ⟨_, rfl⟩
  · cases e

/-! ### not, and, or, if .. else -/
theorem resB {H0 G H : Hp} {fp0 fp : Fps} {d : D} {l : Nat} {v : V} {k : Bool} (h : ResR F H0 fp0 G H fp (d, l) v) (e : d = .bl k) : v = .bl k := by
  subst e
  obtain ⟨q, h, _⟩ := h
  match l, h with
  | 0, h => simpa only [RepF] using h.2
  | 1, ⟨a, _, _, h⟩ => exact h.elim
  | 2, ⟨a, bs, _, _, h⟩ => exact h.elim
theorem bind_mk {α β : Type} {r : Res α} {f : α → Rho → Res β} {b : β} {ρ1 : Rho} {a : α} {ρ0 : Rho} (h1 : r = .ok a ρ0) (h2 : f a ρ0 = .ok b ρ1) : r.bind f = .ok b ρ1 := by rw [h1]; exact h2
theorem snd_not (ha : Snd X F W A a) : Snd X F W { mkR (.not ca) (fun ρ => (A.f ρ).bind fun x ρ1 => match x.1 with
      | .bl c => .ok (.bl (!c), 0) ρ1
      | _ => .bad) with
      t := fun ρ => (A.t ρ).bind fun c ρ1 => .ok (!c) ρ1 } (.UnaryOp .Not a pos) := by
  have h : PE X (.UnaryOp .Not a pos) (tV F W fun ρ => (A.f ρ).bind fun x ρ1 => match x.1 with
      | .bl c => .ok (.bl (!c), 0) ρ1
      | _ => .bad) := PE.weak (pe_not ha.f) fun σ H Q ⟨G, ρ, fp, E, h⟩ => by
    refine tP.bind back_res E h fun p ρ1 G1 H1 fp1 x e ad E1 r1 h1 => ?_
    obtain ⟨d, l⟩ := p
    cases d with
    | bl c => exact ⟨c, resB r1 rfl, h1 G1 H1 fp1 _ Adv.refl E1 (ResR.of (by simp only [RepF]))⟩
    | _ => exact h1.elim
  refine ⟨h, PT.weak (pt_not ha.t) fun σ H Q ⟨G, ρ, fp, E, h⟩ => ?_, tO_of (ce := .not ca) h rfl, fun _ _ => rfl⟩
  refine tP.bind back_bool E h fun p ρ1 G1 H1 fp1 x e ad E1 r1 h1 => ?_
  cases (show x = p from r1)
  exact h1 G1 H1 fp1 _ Adv.refl E1 rfl
/-- and, or: the AST's list -/
theorem snd_and {rest : List Expr} (ha : Snd X F W A a) (hb : Snd X F W B (.BoolOp .And (b :: rest) pos)) (hw : PW X (.BoolOp .And (b :: rest) pos) (tT F W B.t)) : Snd X F W { mkR (.and ca cb) (fun ρ => (A.f ρ).bind fun x ρ1 => match x.1 with
      | .bl true => B.f ρ1
      | .bl false => .ok (.bl false, 0) ρ1
      | _ => .bad) with
      t := fun ρ => (A.t ρ).bind fun c ρ1 => if c then B.t ρ1 else .ok false ρ1 } (.BoolOp .And (a :: b :: rest) pos) ∧
    PW X (.BoolOp .And (a :: b :: rest) pos) (tT F W fun ρ => (A.t ρ).bind fun c ρ1 => if c then B.t ρ1 else .ok false ρ1) := by
  have h : PE X (.BoolOp .And (a :: b :: rest) pos) (tV F W fun ρ => (A.f ρ).bind fun x ρ1 => match x.1 with
      | .bl true => B.f ρ1
      | .bl false => .ok (.bl false, 0) ρ1
      | _ => .bad) := PE.weak (pe_and ha.f hb.f) fun σ H Q ⟨G, ρ, fp, E, h⟩ => by
    refine tP.bind back_res E h fun p ρ1 G1 H1 fp1 x e ad E1 r1 h1 => ?_
    obtain ⟨d, l⟩ := p
    cases d with
    | bl c =>
      refine ⟨c, resB r1 rfl, ?_⟩
      cases c with
      | true => rw [if_pos rfl]; exact ⟨G1, ρ1, fp1, E1, h1⟩
      | false => rw [if_neg (by simp)]; exact h1 G1 H1 fp1 _ Adv.refl E1 (ResR.of (by simp only [RepF]))
    | _ => exact h1.elim
  have hpw : PW X (.BoolOp .And (a :: b :: rest) pos) (tT F W fun ρ => (A.t ρ).bind fun c ρ1 => if c then B.t ρ1 else .ok false ρ1) :=
    ⟨fun wh pins s σ H Q I ⟨G, ρ, fp, E, h⟩ => (pw_and ha.t hw).run wh pins s σ H Q I (by
      refine tP.bind back_bool E h fun p ρ1 G1 H1 fp1 x e ad E1 r1 h1 => ?_
      cases (show x = p from r1)
      cases p with
      | true => rw [if_pos rfl]; exact ⟨G1, ρ1, fp1, E1, h1⟩
      | false => rw [if_neg (by simp)]; exact h1 G1 H1 fp1 _ Adv.refl E1 rfl)⟩
  exact ⟨⟨h, hpw.pt, tO_of (ce := .and ca cb) h rfl, fun _ _ => rfl⟩, hpw⟩
theorem snd_or {rest : List Expr} (ha : Snd X F W A a) (hb : Snd X F W B (.BoolOp .Or (b :: rest) pos)) (hw : PW X (.BoolOp .Or (b :: rest) pos) (tT F W B.t)) : Snd X F W { mkR (.or ca cb) (fun ρ => (A.f ρ).bind fun x ρ1 => match x.1 with
      | .bl false => B.f ρ1
      | .bl true => .ok (.bl true, 0) ρ1
      | _ => .bad) with
      t := fun ρ => (A.t ρ).bind fun c ρ1 => if c then .ok true ρ1 else B.t ρ1 } (.BoolOp .Or (a :: b :: rest) pos) ∧
    PW X (.BoolOp .Or (a :: b :: rest) pos) (tT F W fun ρ => (A.t ρ).bind fun c ρ1 => if c then .ok true ρ1 else B.t ρ1) := by
  have h : PE X (.BoolOp .Or (a :: b :: rest) pos) (tV F W fun ρ => (A.f ρ).bind fun x ρ1 => match x.1 with
      | .bl false => B.f ρ1
      | .bl true => .ok (.bl true, 0) ρ1
      | _ => .bad) := PE.weak (pe_or ha.f hb.f) fun σ H Q ⟨G, ρ, fp, E, h⟩ => by
    refine tP.bind back_res E h fun p ρ1 G1 H1 fp1 x e ad E1 r1 h1 => ?_
    obtain ⟨d, l⟩ := p
    cases d with
    | bl c =>
      refine ⟨c, resB r1 rfl, ?_⟩
      cases c with
      | false => rw [if_neg (by simp)]; exact ⟨G1, ρ1, fp1, E1, h1⟩
      | true => rw [if_pos rfl]; exact h1 G1 H1 fp1 _ Adv.refl E1 (ResR.of (by simp only [RepF]))
    | _ => exact h1.elim
  have hpw : PW X (.BoolOp .Or (a :: b :: rest) pos) (tT F W fun ρ => (A.t ρ).bind fun c ρ1 => if c then .ok true ρ1 else B.t ρ1) :=
    ⟨fun wh pins s σ H Q I ⟨G, ρ, fp, E, h⟩ => (pw_or ha.t hw).run wh pins s σ H Q I (by
      refine tP.bind back_bool E h fun p ρ1 G1 H1 fp1 x e ad E1 r1 h1 => ?_
      cases (show x = p from r1)
      cases p with
      | false => rw [if_neg (by simp)]; exact ⟨G1, ρ1, fp1, E1, h1⟩
      | true => rw [if_pos rfl]; exact h1 G1 H1 fp1 _ Adv.refl E1 rfl)⟩
  exact ⟨⟨h, hpw.pt, tO_of (ce := .or ca cb) h rfl, fun _ _ => rfl⟩, hpw⟩
/-- the last one of an and, an or -/
theorem snd_one {op : BoolOp} (ha : Snd X F W A a) : Snd X F W A (.BoolOp op [a] pos) ∧ PW X (.BoolOp op [a] pos) (tT F W A.t) := by
  have hw : PW X (.BoolOp op [a] pos) (tT F W A.t) := by
    cases op with
    | And => exact pw_and1 ha.t
    | Or => exact pw_or1 ha.t
  exact ⟨⟨pe_one ha.f, hw.pt, pe_one ha.o, fun _ _ => rfl⟩, hw⟩
theorem snd_ife {t : Expr} {T : EvR} {ct : CE} (ht : Snd X F W T t) (ha : Snd X F W A a) (hb : Snd X F W B b) :
    Snd X F W { mkR (.ife ct ca cb) (fun ρ => (T.t ρ).bind fun c ρ1 => if c then A.f ρ1 else B.f ρ1) with t := fun _ => .bad } (.IfExp t a b pos) := by
  have h : PE X (.IfExp t a b pos) (tV F W fun ρ => (T.t ρ).bind fun c ρ1 => if c then A.f ρ1 else B.f ρ1) := PE.weak (pe_ifExp ht.t ha.f hb.f) fun σ H Q ⟨G, ρ, fp, E, h⟩ => by
    refine tP.bind back_res E h fun p ρ1 G1 H1 fp1 x e ad E1 r1 h1 => ?_
    cases (show x = p from r1)
    cases p with
    | true => rw [if_pos rfl]; exact ⟨G1, ρ1, fp1, E1, h1⟩
    | false => rw [if_neg (by simp)]; exact ⟨G1, ρ1, fp1, E1, h1⟩
  exact ⟨h, no_t, tO_of (ce := .ife ct ca cb) h rfl, fun _ _ => rfl⟩

/-! ### lists of arguments -/
theorem snda_nil {T : Tb} {ps : List Nat} : SndA X F W (ev T ps .nil) [] :=
  ⟨PA.weak pa_nil fun σ H Q ⟨G, ρ, fp, E, h⟩ => h G H fp [] Adv.refl E .nil,
   PA.weak pa_nil fun σ H Q ⟨G, ρ, fp, E, h⟩ => h G H fp [] Adv.refl E ⟨[], rfl, rfl, fun i p v q z => by simp at z, List.nodup_nil, fun b z => nomatch z⟩, fun bs => by
    cases bs with
    | nil => exact PA.weak pa_nil fun σ H Q ⟨G, ρ, fp, E, h⟩ => h G H fp [] Adv.refl E .nil
    | cons b bs => exact no_a, fun pos => rfl, fun _ _ z => nomatch z⟩
theorem ResRs.adv {H0 G1 H1 G2 H2 : Hp} {f0 f1 f2 : Fps} {ps : List (D × Nat)} {vs : List V} (r : ResRs F H0 f0 G1 H1 f1 ps vs) (x : Adv G1 H1 f1 G2 H2 f2) : ResRs F H0 f0 G2 H2 f2 ps vs := by
  obtain ⟨qs, l1, l2, h1, h2, h3⟩ := r
  have there : ∀ b ∈ qs.flatten, ∃ o, H1 b = some o := fun b hb => by
    obtain ⟨q, hq, hb⟩ := List.mem_flatten.mp hb
    obtain ⟨i, hi, e⟩ := List.mem_iff_getElem.mp hq
    have hp : i < ps.length := by omega
    have hv : i < vs.length := by omega
    exact (h1 i ps[i] vs[i] q (List.getElem?_eq_getElem hp) (List.getElem?_eq_getElem hv) (by rw [List.getElem?_eq_getElem hi, e])).there hb
  refine ⟨qs, l1, l2, fun i p v q a1 a2 a3 => (h1 i p v q a1 a2 a3).same x.gg fun b hb => ?_, h2, fun b hb => ?_⟩
  · have hm : b ∈ qs.flatten := List.mem_flatten.mpr ⟨q, List.mem_of_getElem? a3, hb⟩
    obtain ⟨o, ho⟩ := there b hm
    rw [ho]; exact x.kp b o ho (h3 b hm).2.2.1
  · obtain ⟨o, ho⟩ := there b hb
    obtain ⟨a1, a2, a3, a4⟩ := h3 b hb
    refine ⟨?_, a2, fun j z => ?_, a4⟩
    · cases e : G2 b with
      | none => rfl
      | some o' =>
        rcases x.nw b o' e with z | z | ⟨i, z⟩
        · rw [a1] at z; cases z
        · rw [ho] at z; cases z
        · exact absurd z (a3 i)
    · rcases x.ff j b z with e | ⟨i, e⟩
      · rw [ho] at e; cases e
      · exact a3 i e
/-- one that waits, before others -/
theorem ResRs.cons {H0 G1 H1 G2 H2 : Hp} {f0 f1 f2 : Fps} {p : D × Nat} {v : V} {ps : List (D × Nat)} {vs : List V} (r : ResR F H0 f0 G1 H1 f1 p v) (x0 : Adv G1 H1 f1 G2 H2 f2) (x : ∀ b, (H1 b = none ∨ ∃ i, b ∈ f1 i) → H0 b = none ∨ ∃ i, b ∈ f0 i)
    (rs : ResRs F H1 f1 G2 H2 f2 ps vs) : ResRs F H0 f0 G2 H2 f2 (p :: ps) (v :: vs) := by
  obtain ⟨qs, l1, l2, h1, h2, h3⟩ := rs
  obtain ⟨q, a1, a2, a3⟩ := id r
  obtain ⟨q', b1, b2, b3⟩ := r.adv x0
  have there : ∀ b ∈ q, ∃ o, H1 b = some o := fun b hb => a1.there hb
  have same : SlotR F.c G2 H2 p.2 p.1 v q := a1.same x0.gg fun b hb => by
    obtain ⟨o, ho⟩ := there b hb
    rw [ho]; exact x0.kp b o ho (a3 b hb).2.2.1
  have g2 : ∀ b ∈ q, G2 b = none ∧ ∀ j, b ∉ f2 j := fun b hb => by
    obtain ⟨o, ho⟩ := there b hb
    obtain ⟨c1, c2, c3, c4⟩ := a3 b hb
    refine ⟨?_, fun j z => ?_⟩
    · cases e : G2 b with
      | none => rfl
      | some o' =>
        rcases x0.nw b o' e with z | z | ⟨i, z⟩
        · rw [c1] at z; cases z
        · rw [ho] at z; cases z
        · exact absurd z (c3 i)
    · rcases x0.ff j b z with e | ⟨i, e⟩
      · rw [ho] at e; cases e
      · exact c3 i e
  refine ⟨q :: qs, by simp [l1], by simp [l2], fun i p' v' q' e1 e2 e3 => ?_, ?_, fun b hb => ?_⟩
  · cases i with
    | zero =>
      simp at e1 e2 e3
      subst e1 e2 e3
      exact same
    | succ i => exact h1 i p' v' q' (by simpa using e1) (by simpa using e2) (by simpa using e3)
  · rw [List.flatten_cons, List.nodup_append]
    refine ⟨a2, h2, fun b hb b' hb' e => ?_⟩
    subst e
    obtain ⟨o, ho⟩ := there b hb
    rcases (h3 b hb').2.2.2 with z | ⟨i, z⟩
    · rw [ho] at z; cases z
    · exact (a3 b hb).2.2.1 i z
  · rw [List.flatten_cons, List.mem_append] at hb
    rcases hb with hb | hb
    · exact ⟨(g2 b hb).1, (a3 b hb).2.1, (g2 b hb).2, (a3 b hb).2.2.2⟩
    · obtain ⟨c1, c2, c3, c4⟩ := h3 b hb
      exact ⟨c1, c2, c3, x b c4⟩
theorem snda_cons {es : List Expr} (ha : Snd X F W A a) (hb : SndA X F W B es) : SndA X F W (consR A B) (a :: es) := by
  refine ⟨PA.weak (pa_cons ha.o hb.ao (ha.st _ _)) fun σ H Q ⟨G, ρ, fp, E, h⟩ => ?_, PA.weak (pa_cons ha.f hb.al (ha.st _ _)) fun σ H Q ⟨G, ρ, fp, E, h⟩ => ?_, fun bs => ?_, fun pos => ?_, fun e es' z => by cases z; exact ha.st _ _⟩
  rotate_left 2
  · cases bs with
    | nil => exact no_a
    | cons b bs =>
      cases b with
      | true =>
        refine PA.weak (pa_cons ha.o (hb.ca bs) (ha.st _ _)) fun σ H Q ⟨G, ρ, fp, E, h⟩ => ?_
        refine tP.bind back_opds E h fun p ρ1 G1 H1 fp1 x e ad E1 r1 h1 => ?_
        refine tP.bind back_opds E1 h1 fun ps ρ2 G2 H2 fp2 xs e2 ad2 E2 r2 h2 => ?_
        exact h2 G2 H2 fp2 _ Adv.refl E2 (OpdRs.cons (r1.adv ad2.gg) ⟨r2.1, r2.2⟩)
      | false =>
        refine PA.weak (pa_cons (frz_of ha) (hb.ca bs) (ha.st _ _)) fun σ H Q ⟨G, ρ, fp, E, h⟩ => ?_
        refine tP.bind back_opds E h fun p ρ1 G1 H1 fp1 x e ad E1 r1 h1 => ?_
        refine tP.bind back_opds E1 h1 fun ps ρ2 G2 H2 fp2 xs e2 ad2 E2 r2 h2 => ?_
        exact h2 G2 H2 fp2 _ Adv.refl E2 (OpdRs.cons (r1.adv ad2.gg) ⟨r2.1, r2.2⟩)
  · rw [ha.st]
    show (false || (backTo pos (starEach es X.env)).any (·.1)) = false
    rw [hb.pl, Bool.or_false]
  · refine tP.bind back_opds E h fun p ρ1 G1 H1 fp1 x e ad E1 r1 h1 => ?_
    refine tP.bind back_opds E1 h1 fun ps ρ2 G2 H2 fp2 xs e2 ad2 E2 r2 h2 => ?_
    exact h2 G2 H2 fp2 _ Adv.refl E2 (OpdRs.cons (r1.adv ad2.gg) ⟨r2.1, r2.2⟩)
  · refine ⟨G, ρ, fp, E, ?_⟩
    cases e1 : A.f ρ with
    | exc x ρ1 => simp only [consR, e1, Res.bind] at h; exact h
    | bad => simp only [consR, e1, Res.bind] at h; exact h
    | ok p ρ1 =>
      intro G1 H1 fp1 x ad E1 r1
      refine ⟨G1, ρ1, fp1, E1, ?_⟩
      cases e2 : B.al ρ1 with
      | exc x ρ2 =>
        simp only [consR, e1, e2, Res.bind] at h
        exact fun G2 H2 fp2 cls dd ad2 => h G2 H2 fp2 cls dd (ad.trans ad2)
      | bad => simp only [consR, e1, e2, Res.bind] at h; exact h
      | ok ps ρ2 =>
        intro G2 H2 fp2 xs ad2 E2 r2
        simp only [consR, e1, e2, Res.bind] at h
        exact h G2 H2 fp2 (x :: xs) (ad.trans ad2) E2 (ResRs.cons r1 ad2 (fun b hb => ad.new hb) r2)
/-- all frozen -/
theorem EnvOk.frzRs {G H H0 : Hp} {σ : L2.St} {ρ : Rho} {fp fp0 : Fps} (E : EnvOk F G H σ ρ fp) {ps : List (D × Nat)} {vs : List V} (r : ResRs F H0 fp0 G H fp ps vs) : ∃ G', EnvOk F G' H σ ρ fp ∧ RepFs F.c G' (ps.map (·.1)) vs ∧ Same G G' ∧
    ∀ a o, G' a = some o → G a = some o ∨ H0 a = none ∨ ∃ i, a ∈ fp0 i := by
  obtain ⟨qs, l1, l2, h1, h2, h3⟩ := r
  refine ⟨Ev.frz G H qs.flatten, E.frz _ fun b hb => ⟨(h3 b hb).2.1, (h3 b hb).2.2.1⟩, ?_, frz_same E.le _, fun a o e => ?_⟩
  · have step : ∀ (i : Nat) p v, ps[i]? = some p → vs[i]? = some v → RepF F.c (Ev.frz G H qs.flatten) p.1 v := fun i p v e1 e2 => by
      have hi : i < qs.length := by
        have := (List.getElem?_eq_some_iff.mp e1).1
        omega
      have hq := h1 i p v qs[i] e1 e2 (List.getElem?_eq_getElem hi)
      have := hq.frz E.le
      refine RepF.same (fun b o z => ?_) _ _ this
      by_cases hb : b ∈ qs[i]
      · rw [frz_in hb] at z
        rw [frz_in (List.mem_flatten.mpr ⟨qs[i], List.getElem_mem hi, hb⟩)]
        exact z
      · rw [frz_out hb] at z
        exact frz_same E.le _ _ _ z
    have all : ∀ (ps : List (D × Nat)) (vs : List V), vs.length = ps.length → (∀ (i : Nat) p v, ps[i]? = some p → vs[i]? = some v → RepF F.c (Ev.frz G H qs.flatten) p.1 v) → RepFs F.c (Ev.frz G H qs.flatten) (ps.map (·.1)) vs := by
      intro ps
      induction ps with
      | nil => intro vs hl _; simp only [List.map_nil, RepFs]; exact List.eq_nil_of_length_eq_zero hl
      | cons p ps ih =>
        intro vs hl hs
        cases vs with
        | nil => simp at hl
        | cons v vs =>
          simp only [List.map_cons, RepFs]
          exact ⟨v, vs, rfl, hs 0 p v rfl rfl, ih vs (by simpa using hl) fun i p' v' a b => hs (i + 1) p' v' (by simpa using a) (by simpa using b)⟩
    exact all ps vs l2 step
  · by_cases ha : a ∈ qs.flatten
    · exact .inr (h3 a ha).2.2.2
    · rw [frz_out ha] at e; exact .inl e
/-- a tuple, a list written out -/
theorem snd_tup {es : List Expr} {k : Nat} (hK : X.K = F.c.K) (hs : SndA X F W A es) : Snd X F W (mkR (.tup ca) fun ρ => (A.al ρ).bind fun ds ρ1 => if ds.length ≤ LIM then .ok (.tup (ds.map (·.1)), 0) ρ1 else .bad) (.Tuple es k pos) := by
  refine snd_mk hK (PE.weak (pe_tup hs.al) fun σ H Q ⟨G, ρ, fp, E, h⟩ => ?_) rfl (fun _ => rfl) fun _ _ => rfl
  refine ⟨G, ρ, fp, E, ?_⟩
  cases e1 : A.al ρ with
  | exc x ρ1 => simp only [e1, Res.bind] at h; exact h
  | bad => simp only [e1, Res.bind] at h; exact h
  | ok ps ρ1 =>
    simp only [e1, Res.bind] at h
    intro G1 H1 fp1 vs ad E1 r1
    have hl : vs.length = ps.length := by obtain ⟨_, _, l2, _⟩ := r1; exact l2
    obtain ⟨G2, E2, r2, s, nw⟩ := E1.frzRs r1
    split at h
    · rename_i hz
      refine ⟨by rw [hl, LIM_eq]; exact hz, newT (G := G2) E2.le r2 fun G' H' v x n => ?_⟩
      refine h G' H' fp1 v ?_ (E2.ext x) (back_res.back (show Adv G H fp G2 H1 fp1 from ⟨ad.gg.trans s, ad.kp, fun b o z => ?_, ad.ff⟩) (E2.newR n))
      · refine Adv.trans (G2 := G2) (H2 := H1) (f2 := fp1) ⟨ad.gg.trans s, ad.kp, fun b o z => ?_, ad.ff⟩ x.adv
        rcases nw b o z with z | z
        · exact ad.nw b o z
        · exact .inr z
      · rcases nw b o z with z | z
        · exact ad.nw b o z
        · exact .inr z
    · exact h.elim
theorem snd_lst {es : List Expr} (hK : X.K = F.c.K) (hs : SndA X F W A es) : Snd X F W (mkR (.lst ca) fun ρ => (A.al ρ).bind fun ds ρ1 => if ds.length ≤ LIM then .ok (.lst (ds.map (·.1)), 1) ρ1 else .bad) (.List es pos) := by
  refine snd_mk hK (PE.weak (pe_lst hs.al) fun σ H Q ⟨G, ρ, fp, E, h⟩ => ?_) rfl (fun _ => rfl) fun _ _ => rfl
  refine ⟨G, ρ, fp, E, ?_⟩
  cases e1 : A.al ρ with
  | exc x ρ1 => simp only [e1, Res.bind] at h; exact h
  | bad => simp only [e1, Res.bind] at h; exact h
  | ok ps ρ1 =>
    simp only [e1, Res.bind] at h
    intro G1 H1 fp1 vs ad E1 r1
    have hl : vs.length = ps.length := by obtain ⟨_, _, l2, _⟩ := r1; exact l2
    obtain ⟨G2, E2, r2, s, nw⟩ := E1.frzRs r1
    split at h
    · rename_i hz
      refine ⟨by rw [hl, LIM_eq]; exact hz, newL (G := G2) E2.le r2 fun G' H' v x n => ?_⟩
      refine h G' H' fp1 v ?_ (E2.ext x) (back_res.back (show Adv G H fp G2 H1 fp1 from ⟨ad.gg.trans s, ad.kp, fun b o z => ?_, ad.ff⟩) (E2.newR n))
      · refine Adv.trans (G2 := G2) (H2 := H1) (f2 := fp1) ⟨ad.gg.trans s, ad.kp, fun b o z => ?_, ad.ff⟩ x.adv
        rcases nw b o z with z | z
        · exact ad.nw b o z
        · exact .inr z
      · rcases nw b o z with z | z
        · exact ad.nw b o z
        · exact .inr z
    · exact h.elim
end
end Ev
end
section
set_option Elab.async false
set_option linter.all false
set_option maxRecDepth 100000
set_option maxHeartbeats 4000000
set_option autoImplicit false
namespace Ev
open PySem PySem.Spec PyProof.Rows L2
section
variable {X : Cx} {c : Ct}
abbrev rRepr (K : PySem.W.Frag) : List V → Hp → VK → Prop := fun xs H Q => ∃ (x : V) (d : PyData), xs = [x] ∧ Dp K H x d ∧ SeqAt.shaped d = true ∧ d.showable = true ∧ d.shown.length ≤ sizeLine ∧ Q (.str d.shown) H
theorem cr_repr (hgd : X.A.guards = some []) (hu : X.A.units + 65 < cLine) : CallR X (.builtin "repr") (rRepr X.K) := by
  intro pins s σ H xs us Q I r h
  obtain ⟨x, d, rfl, hd, hs, hw, hz, q⟩ := h
  obtain ⟨u, rfl, rx⟩ := r.one
  obtain ⟨as, rr⟩ := Dp.reads I d x u hd rx
  have fin : ∀ (h' : Heap) (t tk : Nat), (∀ b o, s.heap.get? b = some o → h'.get? b = some o) → EP X pins σ Q (.str d.shown t) { s with heap := h', toks := tk } := fun h' t tk hk => ⟨.str d.shown, H, I.kept hk, ⟨t, rfl⟩, q⟩
  have hlay : d.canLay0 = true := SeqAt.canLay_of_shaped hs
  have hdep : d.depth ≤ 64 := by
    unfold SeqAt.shaped at hs
    rw [Bool.and_eq_true] at hs
    exact of_decide_eq_true hs.2
  cases rr with
  | none => exact P.repr_of_none (fin s.heap _ _ fun _ _ e => e)
  | bool b => exact P.repr_of_bool (fin s.heap _ _ fun _ _ e => e)
  | int i t => exact P.repr_of_int (by simpa [PyData.showable] using hw) (fin s.heap _ _ fun _ _ e => e)
  | str x t => exact P.repr_of_str (fin s.heap _ _ fun _ _ e => e) hz
  | list h1 h2 h3 h4 => exact repr_of_reads' (.list h1 h2 h3 h4) hw (PyData.noDict_hsm (PyData.hasDict_of_canLay _ hlay)) hgd (by omega) (fun _ _ e => e) fin hz
  | tuple h1 h2 h3 h4 => exact repr_of_reads' (.tuple h1 h2 h3 h4) hw (PyData.noDict_hsm (PyData.hasDict_of_canLay _ hlay)) hgd (by omega) (fun _ _ e => e) fin hz
  | dict h1 h2 h3 h4 h5 => exact repr_of_reads' (.dict h1 h2 h3 h4 h5) hw (PyData.noDict_hsm (PyData.hasDict_of_canLay _ hlay)) hgd (by omega) (fun _ _ e => e) fin hz
theorem g_repr : Gives1 c (fun x H Q => rRepr c.K [x] H Q) reprD := by
  intro G H a x q Q s ha e k
  unfold reprD at e
  split at e
  · rename_i hz
    rw [Bool.and_eq_true, Bool.and_eq_true] at hz
    obtain ⟨⟨h1, h2⟩, h3⟩ := hz
    cases e
    exact ⟨x, py a, rfl, ha.dp s h1, okD.shaped h1, h2, by rw [LIM_eq]; exact of_decide_eq_true h3, stayS s k⟩
  · cases e
def sgV (cs : List Nat) : List V := cs.map fun c => .str ⟨#[c]⟩
abbrev rListS : List V → Hp → VK → Prop := fun xs H Q => ∃ z : Str, xs = [.str z] ∧ z.cps.size ≤ sizeLine ∧ ∀ l, H l = none → Q (.ref l) (upd H l (.lst (sgV z.cps.toList)))
theorem cr_listS (hc : X.calm = true) : CallR X (.type "list") rListS := by
  intro pins s σ H xs us Q I r h
  obtain ⟨z, rfl, hz, q⟩ := h
  obtain ⟨u, rfl, rx⟩ := r.one
  obtain ⟨t, rfl⟩ := rx
  refine call_list_str (I.ok.hd hc) z t (fun h' tk acc c' hk he hi => ?_) hz
  have hv : Vals (sgV z.cps.toList) acc.toList := by
    have h2 := vals_of_get acc.toList (fun j => V.str ⟨#[z.cps.getD j 0]⟩) fun j u hj => by
      obtain ⟨c, t', hc', rfl⟩ := hi.2 j u (by rw [← hj, Array.getElem?_toList])
      refine ⟨t', ?_⟩
      simp [hc']
    have e : acc.toList.length = z.cps.size := by rw [Array.length_toList]; exact hi.1
    rw [e] at h2
    have e2 : sgV z.cps.toList = (List.range z.cps.size).map fun j => V.str ⟨#[z.cps.getD j 0]⟩ := by
      apply List.ext_getElem?
      intro i
      unfold sgV
      rw [List.getElem?_map, List.getElem?_map]
      by_cases hl : i < z.cps.size
      · rw [List.getElem?_range hl, List.getElem?_eq_getElem (by simpa using hl)]
        simp [hl]
      · rw [List.getElem?_eq_none (by simpa using hl), List.getElem?_eq_none (by simpa using hl)]; rfl
    rw [e2]; exact h2
  refine ⟨.ref s.heap.objs.size, upd H s.heap.objs.size (.lst (sgV z.cps.toList)), I.laid hk (Nat.le_refl _) (show ObjOk X.prog X.w _ _ _ (.lst (sgV z.cps.toList)) from ⟨?_, acc.toList, c', hv, ?_⟩), rfl, q _ (I.hok.fresh (Nat.le_refl _))⟩
  · unfold sgV
    rw [List.length_map, Array.length_toList]; exact hz
  · rw [Array.toArray_toList]; exact he
theorem repFs_sg {G : Hp} : ∀ cs : List Nat, RepFs c G (cs.map sgn1) (sgV cs)
  | [] => by simp only [List.map_nil, sgV, RepFs]
  | x :: cs => by
    simp only [List.map_cons, sgV, RepFs, sgn1, RepF]
    exact ⟨_, _, rfl, rfl, repFs_sg cs⟩
theorem g_listS : Gives1 c (fun x H Q => rList c.K [x] H Q ∨ rListS [x] H Q) listD := by
  intro G H a x q Q s ha e k
  cases a with
  | lst ds =>
    cases e
    obtain ⟨p, vs, rfl, h1, h2⟩ := ha.lst
    exact .inl ⟨p, vs, rfl, .inl (SqL.of h1), newL s h2 k⟩
  | tup ds =>
    cases e
    obtain ⟨p, vs, rfl, h1, h2⟩ := ha.tup s
    exact .inl ⟨p, vs, rfl, .inr h1, newL s h2 k⟩
  | str z =>
    simp only [listD] at e
    split at e
    · rename_i hz
      cases e
      cases ha.str
      exact .inr ⟨z, rfl, by rw [LIM_eq]; exact hz, newL s (repFs_sg _) k⟩
    · cases e
  | _ => cases e
/-- list(range(n)) -/
theorem repFs_rg {G : Hp} (n : Int) : RepFs c G (rangeD 0 n.toNat) (rgV 0 n) := by
  have e : rgV 0 n = (List.range n.toNat).map fun (i : Nat) => V.int (0 + (i : Int)) := by unfold rgV; rw [Int.sub_zero]
  rw [e]
  unfold rangeD
  generalize List.range n.toNat = l
  induction l with
  | nil => simp only [List.map_nil, RepFs]
  | cons x l ih =>
    simp only [List.map_cons, RepFs, RepF]
    exact ⟨_, _, rfl, rfl, ih⟩
variable {F : Fm} {W : WXt} {A : EvR} {a : Expr} {ca : CE} {p p2 pos pos2 : Pos}
theorem snd_lrg (hK : X.K = F.c.K) (hc : X.calm = true) (ha : Snd X F W A a) (hg : Gl X "list") (hm : X.mg "list" = none) (hg2 : Gl X "range") (hm2 : X.mg "range" = none) : Snd X F W (mkR (.lrg ca) fun ρ => (A.f ρ).bind fun p ρ1 => match p.1 with
      | .int j => if -(2 ^ 62) ≤ j ∧ j ≤ LIM then .ok (.lst (rangeD 0 j.toNat), 1) ρ1 else .bad
      | _ => .bad) (.Call (.Name "list" p) [.Call (.Name "range" p2) [a] [] pos2] [] pos) := by
  refine snd_mk hK (PE.weak (pe_listRg hc hg hm (prg_1 hg2 hm2 ha.f (ha.st _ _)) rfl) fun σ H Q ⟨G, ρ, fp, E, h⟩ => ?_) rfl (fun _ => rfl) fun _ _ => rfl
  refine tP.bind back_res E h fun p ρ1 G1 H1 fp1 x e ad E1 r1 h1 => ?_
  obtain ⟨d, l⟩ := p
  cases d with
  | int j =>
    simp only at h1
    split at h1
    · rename_i hz
      have hx : x = .int j := by
        obtain ⟨q, r1, _⟩ := r1
        match l, r1 with
        | 0, r1 => simpa only [RepF] using r1.2
        | 1, ⟨a, _, _, r1⟩ => exact r1.elim
        | 2, ⟨a, bs, _, _, r1⟩ => exact r1.elim
      have e : LIM = 16777216 := rfl
      refine ⟨j, hx, ⟨by omega, by omega, by omega, by omega, by omega⟩, newL (c := F.c) E1.le (repFs_rg j) fun G' H' v x n => ?_⟩
      exact h1 G' H' fp1 v x.adv (E1.ext x) (E1.newR n)
    · exact h1.elim
  | _ => exact h1.elim
end
end Ev
end
section
set_option Elab.async false
set_option linter.all false
set_option maxRecDepth 100000
set_option maxHeartbeats 4000000
set_option autoImplicit false
namespace Ev
open PySem PySem.Spec PyProof.Rows L2
section
variable {X : Cx} {F : Fm} {W : WXt}
variable {a b e1 e2 e3 : Expr} {A B C : EvR} {pos : Pos} {ca cb cc : CE}

/-! ### a[i] -/
def noSlice : Expr → Bool
  | .Slice _ _ _ _ => false
  | _ => true
theorem plainIx_of {b : Expr} (h : noSlice b = true) : PlainIx b := by
  intro o i
  cases b <;> first | rfl | (cases h)
theorem snd_ix (hK : X.K = F.c.K) (ha : Snd X F W A a) (hb : Snd X F W B b) (hs : noSlice b = true) : Snd X F W (mkR (.ix ca cb) fun ρ => (A.o ρ).bind fun x ρ1 => (B.o ρ1).bind fun y ρ2 => bltO (val2 ixD) [x, y] ρ2) (.Subscript a b pos) := by
  have hr : IxR X (rIx F.c.K) := by rw [← hK]; exact ix_seq
  refine snd_mk hK (PE.weak (pe_ix hr ha.o hb.o (plainIx_of hs)) (two_w g_ix)) rfl (fun _ => rfl) fun _ _ => rfl

/-! ### a[lo:hi] -/
structure SndP (X : Cx) (F : Fm) (W : WXt) (r : EvR) (e : Option Expr) : Prop where
  sl : PO X e fun σ H Q => tP F W (fun _ _ _ _ _ (o o' : Option Int) => o' = o) r.sl σ H Q
theorem back_opt : Back (fun (_ : Hp) (_ : Fps) (_ _ : Hp) (_ : Fps) (o o' : Option Int) => o' = o) := ⟨fun {G0 H0 G1 H1 G2 H2 f0 f1 f2 a v} _ h => h⟩
theorem PO.weak {e : Option Expr} {t t' : TO} (h : PO X e t) (w : ∀ σ H Q, t' σ H Q → t σ H Q) : PO X e t' := ⟨fun pins s σ H Q I q => h.run pins s σ H Q I (w _ _ _ q)⟩
theorem sndp_none {T : Tb} {ps : List Nat} : SndP X F W (ev T ps .nil) none := ⟨PO.weak po_none fun σ H Q ⟨G, ρ, fp, E, h⟩ => h G H fp none Adv.refl E rfl⟩
theorem sndp_some {f : Rho → Res (D × Nat)} (h : PE X a (tV F W f)) : SndP X F W (mkR ca f) (some a) := by
  refine ⟨PO.weak (po_some h) fun σ H Q ⟨G, ρ, fp, E, h⟩ => ?_⟩
  refine tP.bind back_opt E h fun p ρ1 G1 H1 fp1 x e ad E1 r1 h1 => ?_
  obtain ⟨d, l⟩ := p
  cases d with
  | int i =>
    have ex : x = .int i := by
      obtain ⟨q, hq, _⟩ := r1
      match l, hq with
      | 0, hq => simpa only [RepF] using hq.2
      | 1, ⟨a, _, _, hq⟩ => exact hq.elim
      | 2, ⟨a, bs, _, _, hq⟩ => exact hq.elim
    exact ⟨i, ex, h1 G1 H1 fp1 _ Adv.refl E1 rfl⟩
  | _ => exact h1.elim
theorem snd_slc (hK : X.K = F.c.K) {lo hi : Option Expr} {p2 : Pos} (ha : Snd X F W A a) (hl : SndP X F W B lo) (hh : SndP X F W C hi) :
    Snd X F W (mkR (.slc ca cb cc) fun ρ => (A.o ρ).bind fun x ρ1 => (B.sl ρ1).bind fun l ρ2 => (C.sl ρ2).bind fun h ρ3 => bltO (val1 fun d => slcD d l h) [x] ρ3) (.Subscript a (.Slice lo hi none p2) pos) := by
  have hr : SlR X (rSlAll F.c.K) := by rw [← hK]; exact sl_all
  refine snd_mk hK (PE.weak (pe_slice hr ha.o hl.sl hh.sl) fun σ H Q ⟨G, ρ, fp, E, h⟩ => ?_) rfl (fun _ => rfl) fun _ _ => rfl
  refine tP.bind back_res E h fun oa ρ1 G1 H1 fp1 x e ad E1 r1 h1 => ?_
  refine tP.bind back_res E1 h1 fun ol ρ2 G2 H2 fp2 l' e2 ad2 E2 r2 h2 => ?_
  refine tP.bind back_res E2 h2 fun oh ρ3 G3 H3 fp3 h' e3 ad3 E3 r3 h3 => ?_
  cases (show l' = ol from r2)
  cases (show h' = oh from r3)
  obtain ⟨_, e, z⟩ := bltO_ok rfl (g_slc ol oh).gives E3 (H0 := H3) (fp0 := fp3) (OpdRs.cons (r1.adv (ad2.gg.trans ad3.gg)) .nil) h3
  cases e
  exact z

/-! ### built-in functions -/
def bltV : Blt → Value
  | .len => .builtin "len"
  | .abs => .builtin "abs"
  | .int => .type "int"
  | .str => .type "str"
  | .bool => .type "bool"
  | .sum => .builtin "sum"
  | .max => .builtin "max"
  | .min => .builtin "min"
  | .sorted => .builtin "sorted"
  | .list => .type "list"
  | .tuple => .type "tuple"
  | .all => .builtin "all"
  | .any => .builtin "any"
  | .repr => .builtin "repr"
  | .dict => .type "dict"
  | .lenset => .builtin "len"
  | .sortset => .builtin "sorted"
def bltN : Blt → Str
  | .len => "len"
  | .abs => "abs"
  | .int => "int"
  | .str => "str"
  | .bool => "bool"
  | .sum => "sum"
  | .max => "max"
  | .min => "min"
  | .sorted => "sorted"
  | .list => "list"
  | .tuple => "tuple"
  | .all => "all"
  | .any => "any"
  | .repr => "repr"
  | .dict => "dict"
  | .lenset => "len"
  | .sortset => "sorted"
theorem bltN_boot (b : Blt) : bootBuiltins (bltN b) = some (bltV b) := by cases b <;> decide +kernel
theorem bltN_name (b : Blt) : bltN b ≠ "__name__" := by cases b <;> decide +kernel
theorem bltN_dbg (b : Blt) : (bltN b == ("__debug__" : Str)) = false := by cases b <;> decide +kernel
variable {c : Ct}
def rOne (r : V → Hp → VK → Prop) : List V → Hp → VK → Prop := fun vs H Q => ∃ x, vs = [x] ∧ r x H Q
theorem gives_blt {b : Blt} {r : V → Hp → VK → Prop} (h2 : ∀ x y, blt2 b x y = none) (g : Gives1 c r (blt1 b)) : Gives c (rOne r) (bltD b) := by
  intro G H ds vs q Q s hl hr e k
  match ds, vs, e, hl with
  | [a], [x], e, _ => exact ⟨x, rfl, g G H a x q Q s (hr 0 a x rfl rfl) e k⟩
  | [a, a'], [x, x'], e, _ =>
    rw [show bltD b [a, a'] = blt2 b a a' from rfl, h2] at e
    cases e
theorem callR_one {f : Value} {r : List V → Hp → VK → Prop} (h : CallR X f r) : CallR X f (rOne fun x H Q => r [x] H Q) := by
  intro pins s σ H vs us Q I rv ⟨x, e, q⟩
  subst e
  exact h pins s σ H _ us Q I rv q
theorem no_call {f : Value} : CallR X f (fun _ _ _ => False) := fun pins s σ H vs us Q I rv h => False.elim h
theorem gives_no {p : List D → Option (D × Nat)} (h : ∀ ds, p ds = none) : Gives c (fun _ _ _ => False) p := by
  intro G H ds vs q Q s hl hr e k
  rw [h] at e; cases e
theorem blt_none {b : Blt} (h1 : ∀ x, blt1 b x = none) (h2 : ∀ x y, blt2 b x y = none) : ∀ ds, bltD b ds = none
  | [] => rfl
  | [x] => h1 x
  | [x, y] => h2 x y
  | _ :: _ :: _ :: _ => rfl
abbrev rMax2 : List V → Hp → VK → Prop := fun xs H Q => ∃ i j, xs = [V.int i, V.int j] ∧ Q (.int (if j > i then j else i)) H
abbrev rMin2 : List V → Hp → VK → Prop := fun xs H Q => ∃ i j, xs = [V.int i, V.int j] ∧ Q (.int (if j < i then j else i)) H
theorem g_max2 : Gives c (fun vs H Q => rMax c.K vs H Q ∨ rMax2 vs H Q) (bltD .max) := by
  intro G H ds vs q Q s hl hr e k
  match ds, vs, e, hl with
  | [a], [x], e, _ => exact .inl (g_max G H a x q Q s (hr 0 a x rfl rfl) e k)
  | [a, b], [x, y], e, _ =>
    have h1 := hr 0 a x rfl rfl
    have h2 := hr 1 b y rfl rfl
    cases a with
    | int i =>
      cases b with
      | int j =>
        cases e
        cases h1.int; cases h2.int
        exact .inr ⟨i, j, rfl, stayI s k⟩
      | _ => cases e
    | _ => cases b <;> cases e
theorem g_min2 : Gives c (fun vs H Q => rMin c.K vs H Q ∨ rMin2 vs H Q) (bltD .min) := by
  intro G H ds vs q Q s hl hr e k
  match ds, vs, e, hl with
  | [a], [x], e, _ => exact .inl (g_min G H a x q Q s (hr 0 a x rfl rfl) e k)
  | [a, b], [x, y], e, _ =>
    have h1 := hr 0 a x rfl rfl
    have h2 := hr 1 b y rfl rfl
    cases a with
    | int i =>
      cases b with
      | int j =>
        cases e
        cases h1.int; cases h2.int
        exact .inr ⟨i, j, rfl, stayI s k⟩
      | _ => cases e
    | _ => cases b <;> cases e
theorem g_blt (hK : X.K = c.K) (hc : X.calm = true) (hgd : X.A.guards = some []) (hu : X.A.units + 65 < cLine) (b : Blt) : ∃ r, CallR X (bltV b) r ∧ Gives c r (bltD b) := by
  cases b with
  | len => exact ⟨_, callR_one call_lenA, by rw [hK]; exact gives_blt (fun _ _ => rfl) g_len⟩
  | abs => exact ⟨_, callR_one call_abs, gives_blt (fun _ _ => rfl) g_abs⟩
  | int => exact ⟨_, callR_one (CallR.or call_int1 call_int_str), gives_blt (fun _ _ => rfl) g_int⟩
  | str => exact ⟨_, callR_one call_str_int, gives_blt (fun _ _ => rfl) g_str⟩
  | bool => exact ⟨_, no_call, gives_no (blt_none (fun _ => rfl) fun _ _ => rfl)⟩
  | sum => exact ⟨_, callR_one (cr_sum hc), by rw [hK]; exact gives_blt (fun _ _ => rfl) g_sum⟩
  | max => exact ⟨_, CallR.or (cr_max hc) (call_max2 hc), by rw [hK]; exact g_max2⟩
  | min => exact ⟨_, CallR.or (cr_min hc) (call_min2 hc), by rw [hK]; exact g_min2⟩
  | sorted => exact ⟨_, callR_one cr_sortedI, by rw [hK]; exact gives_blt (fun _ _ => rfl) g_sorted⟩
  | list => exact ⟨_, callR_one (CallR.or call_list_of (cr_listS hc)), by rw [hK]; exact gives_blt (fun _ _ => rfl) g_listS⟩
  | tuple => exact ⟨_, callR_one call_tuple_of, by rw [hK]; exact gives_blt (fun _ _ => rfl) g_tuple⟩
  | all => exact ⟨_, callR_one (cr_all hc), by rw [hK]; exact gives_blt (fun _ _ => rfl) g_all⟩
  | any => exact ⟨_, callR_one (cr_any hc), by rw [hK]; exact gives_blt (fun _ _ => rfl) g_any⟩
  | repr => exact ⟨_, callR_one (cr_repr hgd hu), by rw [hK]; exact gives_blt (fun _ _ => rfl) g_repr⟩
  | dict => exact ⟨_, no_call, gives_no (blt_none (fun _ => rfl) fun _ _ => rfl)⟩
  | lenset => exact ⟨_, no_call, gives_no (blt_none (fun _ => rfl) fun _ _ => rfl)⟩
  | sortset => exact ⟨_, no_call, gives_no (blt_none (fun _ => rfl) fun _ _ => rfl)⟩
theorem isTy_name (b : Blt) : (∃ id, bltV b = .builtin id) ∨ ∃ T, bltV b = .type T := by
  cases b <;> first | exact .inl ⟨_, rfl⟩ | exact .inr ⟨_, rfl⟩
theorem snd_blt (hK : X.K = F.c.K) (hc : X.calm = true) (hgd : X.A.guards = some []) (hu : X.A.units + 65 < cLine) {bb : Blt} {es : List Expr} {e : Expr} {p : Pos} (hg : Gl X (bltN bb)) (hm : X.mg (bltN bb) = none) (hs : SndA X F W A (e :: es)) (he : starEach (e :: es) X.env = (false, eval e X.env) :: starEach es X.env) (hpl : (backTo pos (starEach es X.env)).any (·.1) = false) :
    Snd X F W (mkR (.blt bb ca) fun ρ => (A.ao ρ).bind fun os ρ1 => bltO (bltD bb) os ρ1) (.Call (.Name (bltN bb) p) (e :: es) [] pos) := by
  obtain ⟨r, hr, g⟩ := g_blt hK hc hgd hu bb
  have w : ∀ σ H Q, tV F W (fun ρ => (A.ao ρ).bind fun os ρ1 => bltO (bltD bb) os ρ1) σ H Q → tCB r (tAo F W A.ao) σ H Q := fun σ H Q ⟨G, ρ, fp, E, h⟩ => by
    refine tP.bind back_res E h fun os ρ1 G1 H1 fp1 vs e ad E1 r1 h1 => ?_
    exact bltO_ok rfl g E1 r1 h1
  have hv := bltN_boot bb
  rcases isTy_name bb with ⟨id, ev⟩ | ⟨T, ev⟩
  · rw [ev] at hr hv
    exact snd_mk hK (PE.weak (pe_callB hr hg hm hv hs.ao (bltN_name bb) (bltN_dbg bb) he hpl) w) rfl (fun _ => rfl) fun _ _ => rfl
  · rw [ev] at hr hv
    exact snd_mk hK (PE.weak (pe_callTy hr hg hm hv hs.ao (bltN_name bb) (bltN_dbg bb) he hpl) w) rfl (fun _ => rfl) fun _ _ => rfl

/-! ### isinstance -/
def tyS : Ty → String
  | .int => "int"
  | .bool => "bool"
  | .str => "str"
  | .tuple => "tuple"
  | .list => "list"
def tyN : Ty → Str
  | .int => "int"
  | .bool => "bool"
  | .str => "str"
  | .tuple => "tuple"
  | .list => "list"
theorem tyN_boot (t : Ty) : bootBuiltins (tyN t) = some (.type (tyS t)) := by cases t <;> decide +kernel
theorem tyN_name (t : Ty) : tyN t ≠ "__name__" := by cases t <;> decide +kernel
theorem tyN_dbg (t : Ty) : (tyN t == ("__debug__" : Str)) = false := by cases t <;> decide +kernel
theorem SqT.tyx {K : PySem.W.Frag} {H : Hp} {a : Addr} {vs : List V} (h : SqT K H a vs) : TyX K H (.ref a) (.type "tuple") := by
  rcases h with (h | ⟨o, h⟩) | ⟨o, its, n, h, hc, _⟩
  · exact .base (.tup h)
  · exact .fTuple h
  · exact .kTuple h hc
def dTy : D → Option String
  | .non => some "NoneType"
  | .bl _ => some "bool"
  | .int _ => some "int"
  | .str _ => some "str"
  | .tup _ => some "tuple"
  | .lst _ => some "list"
  | _ => none
theorem dTy_ok {G H : Hp} (s : Same G H) : ∀ {d : D} {v : V} {T : String}, RepN c G H d v → dTy d = some T → TyX c.K H v (.type T)
  | .non, v, T, h, e => by cases h.non; cases e; exact .base .non
  | .bl b, v, T, h, e => by cases h.bl; cases e; exact .base (.bl b)
  | .int i, v, T, h, e => by cases h.int; cases e; exact .base (.int i)
  | .str x, v, T, h, e => by cases h.str; cases e; exact .base (.str x)
  | .tup ds, v, T, h, e => by
    obtain ⟨a, vs, rfl, h1, _⟩ := h.tup s
    cases e
    exact SqT.tyx h1
  | .lst ds, v, T, h, e => by
    obtain ⟨a, vs, rfl, h1, _⟩ := h.lst
    cases e
    exact .base (.lst h1)
  | .dic _, v, T, h, e => by cases e
  | .fn _, v, T, h, e => by cases e
  | .ins _ _, v, T, h, e => by cases e
  | .scr _, v, T, h, e => by cases e
theorem isTy_ok {K : PySem.W.Frag} {t : Ty} {d : D} {k : Bool} (e : isTy t d = some k) : ∃ T, dTy d = some T ∧ PySem.W.kitOne K (.type T) (.type (tyS t)) = some k := by
  cases d with
  | non => exact ⟨_, rfl, by cases t <;> cases e <;> exact kit_ty (by decide +kernel)⟩
  | bl b => exact ⟨_, rfl, by cases t <;> cases e <;> exact kit_ty (by decide +kernel)⟩
  | int i => exact ⟨_, rfl, by cases t <;> cases e <;> exact kit_ty (by decide +kernel)⟩
  | str x => exact ⟨_, rfl, by cases t <;> cases e <;> exact kit_ty (by decide +kernel)⟩
  | tup ds => exact ⟨_, rfl, by cases t <;> cases e <;> exact kit_ty (by decide +kernel)⟩
  | lst ds => exact ⟨_, rfl, by cases t <;> cases e <;> exact kit_ty (by decide +kernel)⟩
  | _ => cases t <;> cases e
theorem snd_isn (hK : X.K = F.c.K) {t : Ty} {p p2 : Pos} (ha : Snd X F W A a) (hg : Gl X "isinstance") (hm : X.mg "isinstance" = none) (hg2 : Gl X (tyN t)) (hm2 : X.mg (tyN t) = none) (pos : Pos) :
    Snd X F W (mkR (.isn ca t) fun ρ => (A.o ρ).bind fun x ρ1 => bltO (val1 fun d => bool0 (isTy t d)) [x] ρ1) (.Call (.Name "isinstance" p) [a, .Name (tyN t) p2] [] pos) := by
  have hty : PE X (.Name (tyN t) p2) (tC (.ty (tyS t))) := pe_bltn hg2 hm2 (tyN_boot t) rfl (tyN_name t) (tyN_dbg t)
  have hp : PA X [a, .Name (tyN t) p2] (tCons (tO F W A.o) (tCons (tC (.ty (tyS t))) tNil)) := pa_cons ha.o (pa_cons hty pa_nil (by rfl)) (ha.st _ _)
  have hv : bootBuiltins ("isinstance" : Str) = some (.builtin "isinstance") := by decide +kernel
  refine snd_mk hK (PE.weak (pe_callB call_isi hg hm hv hp (by decide +kernel) (by decide +kernel) (ha.st _ _) rfl) fun σ H Q ⟨G, ρ, fp, E, h⟩ => ?_) rfl (fun _ => rfl) fun _ _ => rfl
  refine tP.bind back_res E h fun oa ρ1 G1 H1 fp1 x e ad E1 r1 h1 => ?_
  show rIsi X.K [x, .ty (tyS t)] H1 Q
  have g : Gives1 F.c (fun x H Q => rIsi F.c.K [x, .ty (tyS t)] H Q) fun d => bool0 (isTy t d) := by
    intro G H a x q Q s ha e k
    obtain ⟨kk, e0, rfl⟩ := bool0_some e
    obtain ⟨T, e1, e2⟩ := isTy_ok (K := F.c.K) e0
    exact ⟨x, .ty (tyS t), .type T, .type (tyS t), kk, rfl, .ty _, dTy_ok s ha e1, e2, stayB s k⟩
  rw [hK]
  obtain ⟨_, e, z⟩ := bltO_ok rfl g.gives E1 (H0 := H1) (fp0 := fp1) (OpdRs.cons r1 .nil) h1
  cases e
  exact z

/-! ### methods -/
def mthT : Mth → String
  | .index => "list"
  | .count => "list"
  | .join => "str"
  | .split => "str"
  | .get => "dict"
def mthN : Mth → Str
  | .index => "index"
  | .count => "count"
  | .join => "join"
  | .split => "split"
  | .get => "get"
theorem g_index : Gives2 c (fun x y H Q => rIndexD c.K x [y] H Q) indexD := by
  intro G H a b x y q Q s ha hb e k
  cases a with
  | lst ds =>
    simp only [indexD] at e
    split at e
    · rename_i hz
      rw [Bool.and_eq_true] at hz
      simp only [Option.map_eq_some_iff] at e
      obtain ⟨j, hj, rfl⟩ := e
      obtain ⟨p, vs, rfl, h1, h2⟩ := ha.lst
      have hd := (show RepN c G H (.lst ds) (.ref p) from ⟨p, vs, rfl, h1, h2⟩).dp s hz.1
      have pyl : ∀ (ds : List D) (m : Nat), (pys ds)[m]? = ds[m]?.map py := by
        intro ds
        induction ds with
        | nil => intro m; rfl
        | cons d ds ih =>
          intro m
          cases m with
          | zero => rfl
          | succ m => simpa [pys] using ih m
      obtain ⟨hlt, hp, hn⟩ := List.findIdx?_eq_some_iff_getElem.mp hj
      have sh : SeqAt.shaped (.list (pys ds)) = true := by simpa only [py] using okD.shaped hz.1
      refine ⟨p, y, py b, pys ds, j, py ds[j], rfl, rfl, by simpa only [py] using hd, hb.dp s hz.2, sh, okD.shaped hz.2, ?_, hp, fun m z' hm hz' => ?_, stayI s k⟩
      · rw [pyl, List.getElem?_eq_getElem hlt]; rfl
      · rw [pyl, List.getElem?_eq_getElem (Nat.lt_trans hm hlt)] at hz'
        cases hz'
        have := hn m hm
        simpa [eqD] using this
    · cases e
  | _ => cases e
abbrev rJoin (K : PySem.W.Frag) : V → List V → Hp → VK → Prop := fun x xs H Q => ∃ a p, ∃ ys : List Str, x = V.str a ∧ xs = [V.ref p] ∧ (SqL K H p (ys.map V.str) ∨ SqT K H p (ys.map V.str)) ∧
    (ys.map (·.length)).sum + ys.length * a.length ≤ 16777216 ∧ Q (.str (Txt.join a ys)) H
theorem sum_len (a : Str) : ∀ ys : List Str, (ys.map fun x => x.length + a.length).sum = (ys.map (·.length)).sum + ys.length * a.length
  | [] => by simp
  | y :: ys => by
    simp only [List.map_cons, List.sum_cons, List.length_cons, sum_len a ys, Nat.succ_mul]
    omega
theorem g_join : Gives2 c (fun x y H Q => rJoin c.K x [y] H Q) joinD := by
  intro G H a b x y q Q s ha hb e k
  cases a with
  | str z =>
    cases b with
    | lst ds =>
      simp only [joinD] at e
      split at e
      · rename_i xs hx
        split at e
        · rename_i hz
          cases e
          cases ha.str
          obtain ⟨p, vs, rfl, h1, h2⟩ := hb.lst
          rw [isStrs_some hx] at h2
          rw [h2.strs] at h1
          refine ⟨z, p, xs, rfl, rfl, .inl (SqL.of h1), by rw [← sum_len]; exact hz, ?_⟩
          exact stayS s k
        · cases e
      · cases e
    | _ => cases e
  | _ => cases b <;> cases e
def rMt (r : V → List V → Hp → VK → Prop) : List V → Hp → VK → Prop := fun vs H Q => ∃ x xs, vs = x :: xs ∧ r x xs H Q
theorem gives_mth1 {m : Mth} {p : D → D → Option (D × Nat)} {r : V → List V → Hp → VK → Prop} (hm : ∀ ds, mthL m ds = match ds with | [d, x] => p d x | _ => none) (g : Gives2 c (fun x y H Q => r x [y] H Q) p) : Gives c (rMt r) (mthL m) := by
  intro G H ds vs q Q s hl hr e k
  rw [hm] at e
  match ds, vs, e, hl with
  | [a, b], [x, y], e, _ => exact ⟨x, [y], rfl, g G H a b x y q Q s (hr 0 a x rfl rfl) (hr 1 b y rfl rfl) e k⟩
theorem g_mth (hK : X.K = c.K) (hu : X.A.units + 65 < cLine) (m : Mth) : ∃ id r, PlainAttrs (mthT m) ∧ Slot (mthT m) (mthN m) id ∧ typeOf (.builtin id) = pure (.type "method_descriptor") ∧ MtR X id r ∧ Gives c (rMt r) (mthL m) := by
  have no : ∀ id, MtR X id (fun _ _ _ _ => False) := fun id pins s σ H x xs v us Q I rx rs h => False.elim h
  have gn : ∀ m', (∀ ds, mthL m' ds = none) → Gives c (rMt fun _ _ _ _ => False) (mthL m') := fun m' h G H ds vs q Q s hl hr e k => by rw [h] at e; cases e
  cases m with
  | index =>
    refine ⟨_, _, PySem.F.plainAttrs_list, PySem.F.slot_list_index, PySem.F.type_list_index, mt_indexD hu, ?_⟩
    rw [hK]
    exact gives_mth1 (p := indexD) (fun ds => by match ds with | [] => rfl | [_] => rfl | [_, _] => rfl | _ :: _ :: _ :: _ => rfl) g_index
  | join =>
    refine ⟨_, _, PySem.F.plainAttrs_str, PySem.F.slot_str_join, PySem.F.type_str_join, mt_join, ?_⟩
    rw [hK]
    exact gives_mth1 (p := joinD) (fun ds => by match ds with | [] => rfl | [_] => rfl | [_, _] => rfl | _ :: _ :: _ :: _ => rfl) g_join
  | count => exact ⟨_, _, PySem.F.plainAttrs_list, PySem.F.slot_list_count, PySem.F.type_list_count, no _, gn _ fun ds => by match ds with | [] => rfl | [_] => rfl | [_, _] => rfl | _ :: _ :: _ :: _ => rfl⟩
  | split => exact ⟨_, _, PySem.F.plainAttrs_str, PySem.F.slot_str_split, PySem.F.type_str_split, no _, gn _ fun ds => by match ds with | [] => rfl | [_] => rfl | [_, _] => rfl | _ :: _ :: _ :: _ => rfl⟩
  | get => exact ⟨_, _, PySem.F.plainAttrs_dict, PySem.F.slot_dict_get, PySem.F.type_dict_get, no _, gn _ fun ds => by match ds with | [] => rfl | [_] => rfl | [_, _] => rfl | _ :: _ :: _ :: _ => rfl⟩
theorem mthOk_ty {G H : Hp} {m : Mth} {d : D} {x : V} (h : mthOk m (some d) = true) (r : RepN c G H d x) : tyV c.K (mthT m) x H := by
  cases m <;> cases d <;> first | (cases h; done) | skip
  · obtain ⟨a, vs, rfl, h1, _⟩ := r.lst
    exact .inl ⟨rfl, vs, SqL.of h1⟩
  · cases r.str
    exact rfl
theorem snd_mth (hK : X.K = F.c.K) (hu : X.A.units + 65 < cLine) {m : Mth} {es : List Expr} {e : Expr} {apos : Pos} (ha : Snd X F W A a) (hs : SndA X F W B (e :: es)) (hbase : attributeBase a (mthN m) X.env (eval a X.env) = eval a X.env)
    (hfew : ((PySem.backTo pos (starEach (e :: es) X.env)).all (fun x => !x.1) && (PySem.backToKw pos (keywordEach [] X.env)).all (fun x => x.1.isSome) && decide ((e :: es).length + ([] : List Keyword).length + (if ([] : List Keyword).isEmpty then 0 else 1) < 30)) = true)
    (hline : (apos.endLine == pos.line) = true) (he : starEach (e :: es) X.env = (false, eval e X.env) :: starEach es X.env) (hpl : (PySem.backTo pos (starEach es X.env)).any (·.1) = false) :
    Snd X F W (mkR (.mth m ca cb) fun ρ => (A.o ρ).bind fun x ρ1 => if mthOk m (rdO ρ1 x) then (B.ao ρ1).bind fun os ρ2 => bltO (mthL m) (x :: os) ρ2 else .bad) (.Call (.Attribute a (mthN m) apos) (e :: es) [] pos) := by
  obtain ⟨id, r, pa, sl, ty, hm, g⟩ := g_mth (c := F.c) hK hu m
  refine snd_mk hK (PE.weak (pe_bm pa sl ty hm ha.o hs.ao hbase hfew hline he hpl) fun σ H Q ⟨G, ρ, fp, E, h⟩ => ?_) rfl (fun _ => rfl) fun _ _ => rfl
  refine tP.bind back_res E h fun oa ρ1 G1 H1 fp1 x e ad E1 r1 h1 => ?_
  split at h1
  · rename_i hok
    cases hd : rdO ρ1 oa with
    | none => rw [hd] at hok; cases m <;> cases hok
    | some d =>
      rw [hd] at hok
      refine ⟨by rw [hK]; exact mthOk_ty hok (E1.rd r1 hd), ?_⟩
      refine tP.bind back_res E1 h1 fun os ρ2 G2 H2 fp2 xs e2 ad2 E2 r2 h2 => ?_
      obtain ⟨_, _, e3, z⟩ := bltO_ok rfl g E2 (H0 := H1) (fp0 := fp1) (OpdRs.cons (r1.adv ad2.gg) r2) h2
      cases e3
      exact z
  · exact h1.elim

/-! ### fields -/
/-- the class's facts that reading and storing want -/
structure ClsF (K : PySem.W.Frag) (C : Addr) (fs : List Str) : Prop where
  cls : Cls K C
  no : ∀ f ∈ fs, NoAttr K C f
theorem RepFF.get {G : Hp} {f : Str} : ∀ {fs : List (Str × D)} {gs : List (Str × V)} {d : D}, RepFF c G fs gs → fs.lookup f = some d → ∃ v, gs.lookup f = some v ∧ RepF c G d v
  | [], gs, d, h, e => by cases e
  | (x, d') :: fs, gs, d, h, e => by
    simp only [RepFF] at h
    obtain ⟨v, r, rfl, h1, h2⟩ := h
    simp only [List.lookup_cons] at e ⊢
    cases hx : f == x with
    | true => rw [hx] at e; cases e; exact ⟨v, rfl, h1⟩
    | false => rw [hx] at e; exact RepFF.get h2 e
theorem snd_fld (hK : X.K = F.c.K) {f : Str} (ha : Snd X F W A a) (hbase : attributeBase a f X.env (eval a X.env) = eval a X.env) (hc : ∀ k, Cls F.c.K (F.c.ca k) ∧ NoAttr F.c.K (F.c.ca k) f) :
    Snd X F W (mkR (.fld ca f) fun ρ => (A.o ρ).bind fun o ρ1 => bltO (val1 (fldD f)) [o] ρ1) (.Attribute a f pos) := by
  have g : Gives1 F.c (fun x H Q => ∃ a C dx fs v, x = V.ref a ∧ H a = some (.ins C dx fs) ∧ Cls F.c.K C ∧ NoAttr F.c.K C f ∧ fs.lookup f = some v ∧ Q v H) (fldD f) := by
    intro G H a x q Q s ha e k
    cases a with
    | ins kk fs =>
      simp only [fldD, Option.map_eq_some_iff] at e
      obtain ⟨d, e, rfl⟩ := e
      obtain ⟨p, dx, gs, rfl, h1, h2⟩ := ha
      obtain ⟨v, hv, r⟩ := h2.get e
      exact ⟨p, F.c.ca kk, dx, gs, v, rfl, h1, (hc kk).1, (hc kk).2, hv, stay s r k⟩
    | _ => cases e
  refine snd_mk hK (PE.weak (pe_fld ha.o hbase) fun σ H Q ⟨G, ρ, fp, E, h⟩ => ?_) rfl (fun _ => rfl) fun _ _ => rfl
  refine tP.bind back_res E h fun oa ρ1 G1 H1 fp1 x e ad E1 r1 h1 => ?_
  obtain ⟨_, e, z⟩ := bltO_ok rfl g.gives E1 (H0 := H1) (fp0 := fp1) (OpdRs.cons r1 .nil) h1
  cases e
  rw [hK]
  exact z
end
end Ev
end
section
set_option Elab.async false
set_option linter.all false
set_option maxRecDepth 100000
set_option maxHeartbeats 4000000
set_option autoImplicit false
namespace Ev
open PySem PySem.Spec PyProof.Rows L2
section
variable {F : Fm} {W : WXt} {G G' H H' : Hp} {σ : L2.St} {ρ : Rho} {fp : Fps}

/-! ### an own container is changed -/
theorem EnvOk.chg (E : EnvOk F G H σ ρ fp) {i : Nat} {d d' : D} {a : Addr} {o' : HO} (e : ρ[i]? = some (some (d, 1))) (hv : σ[i]? = some (some (.ref a))) (r : RepT F.c G (upd H a o') d' a) :
    EnvOk F G (upd H a o') σ (ρ.set i (some (d', 1))) fp ∧ Adv G H fp G (upd H a o') fp := by
  obtain ⟨v, hv', b, rfl, hf, hr⟩ := E.sl i d 1 e
  rw [hv] at hv'
  cases hv'
  have ha : a ∈ fp i := by rw [hf]; exact List.mem_cons_self
  have ow := E.ow i a ha
  have hi : i < ρ.length := (List.getElem?_eq_some_iff.mp e).1
  refine ⟨⟨E.g0, fun b o z => ?_, fun b o z n => ?_, E.nw, fun j d2 l2 z => ?_, fun j z => ?_, E.nd, E.dj, E.ow, E.io, by rw [List.length_set]; exact E.len⟩, Same.refl _, fun b o z n => ?_, fun b o z => .inl z, fun j b z => .inr ⟨j, z⟩⟩
  · have hb : b ≠ a := fun q => by subst q; rw [ow.1] at z; cases z
    rw [upd_ne hb]; exact E.le _ _ z
  · have hb : b ≠ a := fun q => by
      subst q
      rcases ow.2 with q | q
      · rw [q] at z; cases z
      · exact n q
    rw [upd_ne hb]; exact E.kp _ _ z n
  · by_cases hj : j = i
    · subst hj
      rw [List.getElem?_set_self hi] at z
      cases z
      exact ⟨_, hv, a, rfl, hf, r⟩
    · rw [List.getElem?_set_ne (Ne.symm hj)] at z
      obtain ⟨v, h1, h2⟩ := E.sl j d2 l2 z
      refine ⟨v, h1, h2.same (Same.refl _) fun b hb => upd_ne fun q => ?_⟩
      subst q
      exact hj (E.dj j i _ hb ha)
  · refine E.no j fun d2 l2 q => ?_
    by_cases hj : j = i
    · subst hj
      exact z d' 1 (List.getElem?_set_self hi)
    · refine z d2 l2 ?_
      rw [List.getElem?_set_ne (Ne.symm hj)]; exact q
  · have hb : b ≠ a := fun q => by subst q; exact n i ha
    rw [upd_ne hb]; exact z

def mutT : Mut → Str
  | .append => "append"
  | .extend => "extend"
  | .insert => "insert"
  | .pop => "pop"
  | .popAt => "pop"
  | .setdefault => "setdefault"
/-- what a change of a list gives, told by data -/
def GivesM (c : Ct) (r : V → List V → Hp → VK → Prop) (p : D → List D → Option (D × D)) : Prop :=
  ∀ (G H : Hp) (a : Addr) (d : D) (ds : List D) (vs : List V) (q d' : D) (Q : VK), Same G H → RepT c G H d a → RepFs c G ds vs → p d ds = some (q, d') →
    (∀ o' v, RepT c G (upd H a o') d' a → RepF c G q v → Q v (upd H a o')) → r (.ref a) vs H Q
theorem isLst {c : Ct} {G H : Hp} {a : Addr} {ds : List D} (h : RepT c G H (.lst ds) a) : ∃ vs, H a = some (.lst vs) ∧ RepFs c G ds vs := h
theorem RepT.list {c : Ct} {G H : Hp} {a : Addr} {ds : List D} {vs : List V} (h : RepFs c G ds vs) : RepT c G (upd H a (.lst vs)) (.lst ds) a := ⟨vs, upd_same, h⟩
theorem gm_append {c : Ct} : GivesM c rAppend (mutD .append) := by
  intro G H a d ds vs q d' Q s ht hr e k
  match ds, e with
  | [x], e =>
    cases d with
    | lst xs =>
      simp only [mutD, appendD] at e
      split at e
      · rename_i hz
        cases e
        obtain ⟨ys, h1, h2⟩ := isLst ht
        simp only [RepFs] at hr
        obtain ⟨v, r, rfl, hv, rfl⟩ := hr
        refine ⟨a, ys, v, rfl, rfl, h1, by rw [h2.length, LIM_eq]; exact hz, k _ _ (RepT.list (h2.append (.one hv))) (by simp only [RepF])⟩
      · cases e
    | _ => cases e
theorem gm_extend {c : Ct} : GivesM c rExtend (mutD .extend) := by
  intro G H a d ds vs q d' Q s ht hr e k
  match ds, e with
  | [x], e =>
    cases d with
    | lst xs =>
      cases x with
      | lst zs =>
        simp only [mutD, extendD] at e
        split at e
        · rename_i hz
          cases e
          obtain ⟨ys, h1, h2⟩ := isLst ht
          simp only [RepFs, RepF] at hr
          obtain ⟨v, r, rfl, ⟨b, ws, rfl, h3, h4⟩, rfl⟩ := hr
          refine ⟨a, b, ys, ws, rfl, rfl, h1, s _ _ h3, by rw [h2.length, h4.length, LIM_eq]; exact hz, k _ _ (RepT.list (h2.append h4)) (by simp only [RepF])⟩
        · cases e
      | _ => cases e
    | _ => cases e
theorem gm_pop {c : Ct} : GivesM c rPop (mutD .pop) := by
  intro G H a d ds vs q d' Q s ht hr e k
  match ds, e with
  | [], e =>
    cases d with
    | lst xs =>
      simp only [mutD, popD, Option.map_eq_some_iff] at e
      obtain ⟨x, hx, e⟩ := e
      cases e
      obtain ⟨ys, h1, h2⟩ := isLst ht
      simp only [RepFs] at hr
      obtain ⟨v, hv, rv⟩ := h2.get hx
      rw [← h2.length] at hv
      exact ⟨a, ys, v, rfl, hr, h1, hv, k _ _ (RepT.list h2.dropLast) rv⟩
    | _ => cases e
theorem gm_popAt {c : Ct} : GivesM c rPopAt (mutD .popAt) := by
  intro G H a d ds vs q d' Q s ht hr e k
  match ds, e with
  | [x], e =>
    cases d with
    | lst xs =>
      cases x with
      | int i =>
        simp only [mutD, popAtD] at e
        split at e
        · rename_i hz
          split at e
          · rename_i j hj
            simp only [Option.map_eq_some_iff] at e
            obtain ⟨x, hx, e⟩ := e
            cases e
            obtain ⟨ys, h1, h2⟩ := isLst ht
            simp only [RepFs, RepF] at hr
            obtain ⟨_, _, rfl, rfl, rfl⟩ := hr
            obtain ⟨v, hv, rv⟩ := h2.get hx
            rw [← h2.length] at hj
            exact ⟨a, ys, i, j, v, rfl, rfl, h1, hz.1, hz.2, hj, hv, k _ _ (RepT.list (h2.eraseIdx j)) rv⟩
          · cases e
        · cases e
      | _ => cases e
    | _ => cases e
abbrev rInsert : V → List V → Hp → VK → Prop := fun x vs H Q => ∃ (l : Addr) (xs : List V) (i : Int) (y : V), x = .ref l ∧ vs = [.int i, y] ∧ H l = some (.lst xs) ∧ xs.length < sizeLine ∧ 0 ≤ i ∧ i < 2 ^ 63 ∧
    Q .non (upd H l (.lst (xs.take i.toNat ++ [y] ++ xs.drop i.toNat)))
theorem gm_insert {c : Ct} : GivesM c rInsert (mutD .insert) := by
  intro G H a d ds vs q d' Q s ht hr e k
  match ds, e with
  | [x, y], e =>
    cases d with
    | lst xs =>
      cases x with
      | int i =>
        simp only [mutD, insertD] at e
        split at e
        · rename_i hz
          cases e
          obtain ⟨ys, h1, h2⟩ := isLst ht
          simp only [RepFs, RepF] at hr
          obtain ⟨_, _, rfl, rfl, v, _, rfl, hv, rfl⟩ := hr
          obtain ⟨z1, z2, z3⟩ := hz
          refine ⟨a, ys, i, v, rfl, rfl, h1, by rw [h2.length, LIM_eq]; exact z3, z1, by have : LIM = 16777216 := rfl; omega, k _ _ (RepT.list ?_) (by simp only [RepF])⟩
          have := ((h2.take i.toNat).append (RepFs.one hv)).append (h2.drop i.toNat)
          simpa using this
        · cases e
      | _ => cases e
    | _ => cases e
variable {X : Cx}
theorem gm_mut (m : Mut) (hm : m ≠ .setdefault) : ∃ id r, Slot "list" (mutT m) id ∧ typeOf (.builtin id) = pure (.type "method_descriptor") ∧ MtR X id r ∧ ∀ c, GivesM c r (mutD m) := by
  cases m with
  | append => exact ⟨_, _, PySem.F.slot_list_append, PySem.F.type_list_append, mt_append, fun _ => gm_append⟩
  | extend => exact ⟨_, _, PySem.F.slot_list_extend, PySem.F.type_list_extend, mt_extend, fun _ => gm_extend⟩
  | pop => exact ⟨_, _, PySem.F.slot_list_pop, PySem.F.type_list_pop, mt_pop, fun _ => gm_pop⟩
  | popAt => exact ⟨_, _, PySem.F.slot_list_pop, PySem.F.type_list_pop, mt_popAt, fun _ => gm_popAt⟩
  | insert => exact ⟨_, _, PySem.F.slot_list_insert, PySem.F.type_list_insert, mt_insert, fun _ => gm_insert⟩
  | setdefault => exact absurd rfl hm
theorem mutR_ok {Q : VK} {m : Mut} {i : Nat} {a : Addr} {ps : List (D × Nat)} {vs : List V} {G0 H0 : Hp} {fp0 : Fps} {r : V → List V → Hp → VK → Prop} (g : GivesM F.c r (mutD m)) (E : EnvOk F G H σ ρ fp) (hv : σ[i]? = some (some (.ref a)))
    (rs : ResRs F H0 fp0 G H fp ps vs) (hn : ∀ b, (H0 b = none ∨ ∃ i, b ∈ fp0 i) → H0 b = none ∨ ∃ i, b ∈ fp0 i) (ad : Adv G0 H0 fp0 G H fp) (h : OutP F W (ResR F) σ Q G0 H0 fp0 (mutR m i ps ρ)) : r (.ref a) vs H Q := by
  unfold mutR at h
  split at h
  · rename_i d e
    cases e2 : mutD m d (ps.map (·.1)) with
    | none => rw [e2] at h; exact h.elim
    | some z =>
      obtain ⟨q, d'⟩ := z
      rw [e2] at h
      obtain ⟨G2, E2, r2, s, nw⟩ := E.frzRs rs
      have ad2 : Adv G0 H0 fp0 G2 H fp := ⟨ad.gg.trans s, ad.kp, fun b o z => by
        rcases nw b o z with z | z
        · exact ad.nw b o z
        · exact .inr z, ad.ff⟩
      obtain ⟨v, hv', b, rfl, hf, ht⟩ := E2.sl i d 1 e
      rw [hv] at hv'
      cases hv'
      refine g G2 H a d _ vs q d' Q E2.le ht r2 e2 fun o' v rt rq => ?_
      obtain ⟨E3, ad3⟩ := E2.chg e hv rt
      exact h G2 _ fp v (ad2.trans ad3) E3 (ResR.of rq)
  · exact h.elim
end

section
variable {X : Cx} {F : Fm} {W : WXt}
variable {a b e1 e2 e3 : Expr} {A B C : EvR} {pos : Pos} {ca cb cc : CE}
theorem mutOk_ty {G H : Hp} {σ : L2.St} {ρ : Rho} {fp : Fps} {i : Nat} {x : V} (E : EnvOk F G H σ ρ fp) (h : mutOk i ρ = true) (hx : σ[i]? = some (some x)) : ∃ a, x = .ref a ∧ tyV F.c.K "list" x H := by
  unfold mutOk at h
  split at h
  · rename_i ds e
    obtain ⟨v, hv, a, rfl, hf, ht⟩ := E.sl i _ 1 e
    rw [hx] at hv
    cases hv
    obtain ⟨ys, h1, h2⟩ := isLst ht
    exact ⟨a, rfl, .inl ⟨rfl, ys, SqL.of h1⟩⟩
  · cases h
theorem snd_mut {i : Nat} {x : Str} {p apos : Pos} {m : Mut} {es : List Expr} {e : Expr} (hK : X.K = F.c.K) (hm : m ≠ .setdefault) (hN : X.N[i]? = some x) (hv : Vis X.env.scope x) (hd : (x == ("__debug__" : Str)) = false) (hcd : (x == ("__classdict__" : Str)) = false)
    (hs : SndA X F W A (e :: es)) (he : starEach (e :: es) X.env = (false, eval e X.env) :: starEach es X.env) (hlen : (e :: es).length < 30) (hline : (apos.endLine == pos.line) = true) :
    Snd X F W (mkR (.mut m i ca) fun ρ => (varO i ρ).bind fun x ρ0 => if mutOk i ρ0 then (A.al ρ0).bind fun ds ρ1 => mutR m i ds ρ1 else .bad) (.Call (.Attribute (.Name x p) (mutT m) apos) (e :: es) [] pos) := by
  obtain ⟨id, r, sl, ty, hr, g⟩ := gm_mut (X := X) m hm
  have ho : PE X (.Name x p) (tO F W (varO i)) := PE.weak (pe_var hN hv hd hcd) tO_var
  have pl1 := hs.pl pos
  rw [he] at pl1
  have pl2 : (backTo pos (starEach es X.env)).any (·.1) = false := by
    have z : (false || (backTo pos (starEach es X.env)).any (·.1)) = false := pl1
    rw [Bool.false_or] at z
    exact z
  have few : ((PySem.backTo pos (starEach (e :: es) X.env)).all (fun x => !x.1) && (PySem.backToKw pos (keywordEach [] X.env)).all (fun x => x.1.isSome) && decide ((e :: es).length + ([] : List Keyword).length + (if ([] : List Keyword).isEmpty then 0 else 1) < 30)) = true := by
    rw [Bool.and_eq_true, Bool.and_eq_true]
    refine ⟨⟨?_, rfl⟩, by simpa using hlen⟩
    have z := hs.pl pos
    rw [List.any_eq_false] at z
    rw [List.all_eq_true]
    intro y hy
    simpa using z y hy
  refine snd_mk hK (PE.weak (pe_bm PySem.F.plainAttrs_list sl ty hr ho hs.al rfl few hline he pl2) fun σ H Q ⟨G, ρ, fp, E, h⟩ => ?_) rfl (fun _ => rfl) fun _ _ => rfl
  refine tP.bind back_res E h fun oa ρ1 G1 H1 fp1 x e ad E1 r1 h1 => ?_
  split at h1
  · rename_i hok
    have hx : σ[i]? = some (some x) := by
      have e' := e
      unfold varO at e'
      unfold mutOk at hok
      split at hok
      · rename_i ds q
        obtain ⟨v, hv, _⟩ := E1.sl i _ 1 q
        split at e'
        · cases e'
          rename_i d q2
          rw [q] at q2
          cases q2
        · cases e'
          exact r1
        · cases e'
          exact r1
        · cases e'
      · cases hok
    obtain ⟨a, rfl, t⟩ := mutOk_ty E1 hok hx
    refine ⟨by rw [hK]; exact t, ?_⟩
    refine ⟨G1, ρ1, fp1, E1, ?_⟩
    cases e2 : A.al ρ1 with
    | exc x ρ2 => simp only [e2, Res.bind] at h1; exact h1
    | bad => simp only [e2, Res.bind] at h1; exact h1
    | ok ps ρ2 =>
      simp only [e2, Res.bind] at h1
      intro G2 H2 fp2 vs ad2 E2 r2
      exact mutR_ok (g F.c) E2 hx r2 (fun _ z => z) ad2 h1
  · exact h1.elim
/-- o.pop() -/
theorem snd_mut0 {i : Nat} {x : Str} {p apos : Pos} {T : Tb} {ps : List Nat} (hK : X.K = F.c.K) (hN : X.N[i]? = some x) (hv : Vis X.env.scope x) (hd : (x == ("__debug__" : Str)) = false) (hcd : (x == ("__classdict__" : Str)) = false)
    (hline : (apos.endLine == pos.line) = true) :
    Snd X F W (mkR (.mut .pop i .nil) fun ρ => (varO i ρ).bind fun x ρ0 => if mutOk i ρ0 then ((ev T ps .nil).al ρ0).bind fun ds ρ1 => mutR .pop i ds ρ1 else .bad) (.Call (.Attribute (.Name x p) "pop" apos) [] [] pos) := by
  have ho : PE X (.Name x p) (tO F W (varO i)) := PE.weak (pe_var hN hv hd hcd) tO_var
  refine snd_mk hK (PE.weak (pe_bm0 PySem.F.plainAttrs_list PySem.F.slot_list_pop PySem.F.type_list_pop mt_pop ho rfl hline) fun σ H Q ⟨G, ρ, fp, E, h⟩ => ?_) rfl (fun _ => rfl) fun _ _ => rfl
  refine tP.bind back_res E h fun oa ρ1 G1 H1 fp1 x e ad E1 r1 h1 => ?_
  split at h1
  · rename_i hok
    have hx : σ[i]? = some (some x) := by
      have e' := e
      unfold varO at e'
      unfold mutOk at hok
      split at hok
      · rename_i ds q
        obtain ⟨v, hv, _⟩ := E1.sl i _ 1 q
        split at e'
        · cases e'
          rename_i d q2
          rw [q] at q2
          cases q2
        · cases e'
          exact r1
        · cases e'
          exact r1
        · cases e'
      · cases hok
    obtain ⟨a, rfl, t⟩ := mutOk_ty E1 hok hx
    refine ⟨by rw [hK]; exact t, ?_⟩
    exact mutR_ok (vs := []) (H0 := H1) (fp0 := fp1) gm_pop E1 hx ⟨[], rfl, rfl, fun i p v q z => (by cases i <;> cases z), List.nodup_nil, fun b z => nomatch z⟩ (fun _ z => z) Adv.refl h1
  · exact h1.elim
end
end Ev
end
section
set_option Elab.async false
set_option linter.all false
set_option maxRecDepth 100000
set_option maxHeartbeats 4000000
set_option autoImplicit false
namespace Ev
open PySem PySem.Spec PyProof.Rows L2

/-! ### operands that fit -/
theorem fit_spec : ∀ {bs : List Bool} {os : List Opd} {us : List Nat}, fitIo bs os us = true → os.length = bs.length ∧ (∀ (p k : Nat), os[p]? = some (.s k) → bs[p]? = some true ∧ k ∉ us) ∧
    (∀ (p : Nat) d, os[p]? = some (.v d) → bs[p]? = some false) ∧ ∀ (p p' k : Nat), os[p]? = some (.s k) → os[p']? = some (.s k) → p = p'
  | [], [], us, h => ⟨rfl, fun p k z => by simp at z, fun p d z => by simp at z, fun p p' k z => by simp at z⟩
  | false :: bs, .v d :: os, us, h => by
    simp only [fitIo] at h
    obtain ⟨h1, h2, h3, h4⟩ := fit_spec h
    refine ⟨by simp [h1], fun p k z => ?_, fun p d' z => ?_, fun p p' k z z' => ?_⟩
    · cases p with
      | zero => simp at z
      | succ p => exact h2 p k (by simpa using z)
    · cases p with
      | zero => rfl
      | succ p => exact h3 p d' (by simpa using z)
    · cases p with
      | zero => simp at z
      | succ p =>
        cases p' with
        | zero => simp at z'
        | succ p' => rw [h4 p p' k (by simpa using z) (by simpa using z')]
  | true :: bs, .s i :: os, us, h => by
    simp only [fitIo, Bool.and_eq_true, Bool.not_eq_true', List.contains_eq_mem] at h
    obtain ⟨h0, h⟩ := h
    obtain ⟨h1, h2, h3, h4⟩ := fit_spec h
    have h0 : i ∉ us := by simpa using h0
    refine ⟨by simp [h1], fun p k z => ?_, fun p d' z => ?_, fun p p' k z z' => ?_⟩
    · cases p with
      | zero => simp at z; subst z; exact ⟨rfl, h0⟩
      | succ p =>
        obtain ⟨a, b⟩ := h2 p k (by simpa using z)
        exact ⟨a, fun q => b (List.mem_cons_of_mem _ q)⟩
    · cases p with
      | zero => simp at z
      | succ p => exact h3 p d' (by simpa using z)
    · cases p with
      | zero =>
        simp at z
        cases p' with
        | zero => rfl
        | succ p' =>
          obtain ⟨_, b⟩ := h2 p' k (by simpa using z')
          exact absurd (by rw [z]; exact List.mem_cons_self) b
      | succ p =>
        cases p' with
        | zero =>
          simp at z'
          obtain ⟨_, b⟩ := h2 p k (by simpa using z)
          exact absurd (by rw [z']; exact List.mem_cons_self) b
        | succ p' => rw [h4 p p' k (by simpa using z) (by simpa using z')]
  | [], _ :: _, us, h => by cases h
  | false :: bs, [], us, h => by cases h
  | true :: bs, [], us, h => by cases h
  | false :: bs, .s _ :: os, us, h => by cases h
  | true :: bs, .v _ :: os, us, h => by cases h
theorem putBack_spec : ∀ {bs : List Bool} {os : List Opd} {us : List Nat} {xs : List Slt} {ρ ρ' : Rho}, fitIo bs os us = true → putBack bs os xs ρ = some ρ' →
    ρ'.length = ρ.length ∧ (∀ k : Nat, (∀ p : Nat, os[p]? ≠ some (.s k)) → ρ'[k]? = ρ[k]?) ∧ ∀ p k : Nat, os[p]? = some (.s k) → ∃ x, xs[p]? = some (some x) ∧ (k < ρ.length → ρ'[k]? = some (some x))
  | [], [], us, xs, ρ, ρ', h, e => by
    simp only [putBack, Option.some.injEq] at e
    subst e
    exact ⟨rfl, fun _ _ => rfl, fun p k z => by simp at z⟩
  | false :: bs, .v d :: os, us, x :: xs, ρ, ρ', h, e => by
    simp only [fitIo] at h
    simp only [putBack] at e
    obtain ⟨h1, h2, h3⟩ := putBack_spec h e
    refine ⟨h1, fun k z => h2 k fun p q => z (p + 1) (by simpa using q), fun p k z => ?_⟩
    cases p with
    | zero => simp at z
    | succ p =>
      obtain ⟨x, a, b⟩ := h3 p k (by simpa using z)
      exact ⟨x, by simpa using a, b⟩
  | true :: bs, .s i :: os, us, some y :: xs, ρ, ρ', h, e => by
    simp only [fitIo, Bool.and_eq_true, Bool.not_eq_true', List.contains_eq_mem] at h
    obtain ⟨h0, h⟩ := h
    simp only [putBack] at e
    obtain ⟨h1, h2, h3⟩ := putBack_spec h e
    obtain ⟨_, f2, _, _⟩ := fit_spec h
    refine ⟨by rw [h1, List.length_set], fun k z => ?_, fun p k z => ?_⟩
    · rw [h2 k fun p q => z (p + 1) (by simpa using q), List.getElem?_set_ne fun q => z 0 (by rw [q]; rfl)]
    · cases p with
      | zero =>
        simp at z; subst z
        refine ⟨y, rfl, fun hk => ?_⟩
        rw [h2 i fun p q => ?_, List.getElem?_set_self hk]
        exact (f2 p i q).2 List.mem_cons_self
      | succ p =>
        obtain ⟨x, a, b⟩ := h3 p k (by simpa using z)
        exact ⟨x, by simpa using a, fun hk => b (by rw [List.length_set]; exact hk)⟩
  | [], _ :: _, us, xs, ρ, ρ', h, e => by cases h
  | false :: bs, [], us, xs, ρ, ρ', h, e => by cases h
  | true :: bs, [], us, xs, ρ, ρ', h, e => by cases h
  | false :: bs, .s _ :: os, us, xs, ρ, ρ', h, e => by cases h
  | true :: bs, .v _ :: os, us, xs, ρ, ρ', h, e => by cases h
  | false :: bs, .v d :: os, us, [], ρ, ρ', h, e => by cases e
  | true :: bs, .s i :: os, us, [], ρ, ρ', h, e => by cases e
  | true :: bs, .s i :: os, us, none :: xs, ρ, ρ', h, e => by cases e
theorem maskR_get {io : List Bool} {ρ : Rho} {p : Nat} {x : D × Nat} (h : (maskR io ρ)[p]? = some (some x)) : ρ[p]? = some (some x) := by
  unfold maskR at h
  rw [List.getElem?_zipWith] at h
  split at h
  · rename_i b s e1 e2
    cases b with
    | true => cases h; exact e2
    | false => cases h
  · cases h
def isS (k : Nat) : Opd → Bool
  | .s k' => k' == k
  | .v _ => false
def pOf (os : List Opd) (k : Nat) : Option Nat := os.findIdx? (isS k)
theorem isS_iff {k : Nat} {o : Opd} (h : isS k o = true) : o = .s k := by
  cases o with
  | v d => cases h
  | s k' => simp only [isS, beq_iff_eq] at h; rw [h]
theorem pOf_some {os : List Opd} {k p : Nat} (h : pOf os k = some p) : os[p]? = some (.s k) := by
  obtain ⟨hl, h1, _⟩ := List.findIdx?_eq_some_iff_getElem.mp h
  rw [List.getElem?_eq_getElem hl, isS_iff h1]
theorem pOf_none {os : List Opd} {k : Nat} (h : pOf os k = none) (p : Nat) : os[p]? ≠ some (.s k) := fun z => by
  have q := List.findIdx?_eq_none_iff.mp h _ (List.mem_of_getElem? z)
  simp [isS] at q

/-! ### what a def promises -/
def EndP (c : Ct) (F' : Fm) (io : List Bool) (H : Hp) (fp : Fps) (Q : VK) (E : XK) : FR → Prop
  | .ok r l outs => ∀ (G' H' : Hp) (σ' : L2.St) (ρ' : Rho) (fp' : Fps) (v : V), EnvOk F' G' H' σ' ρ' fp' → maskR io ρ' = outs → ResR F' H fp G' H' fp' (r, l) v → Q v H'
  | .exc x outs => ∀ (G' H' : Hp) (σ' : L2.St) (ρ' : Rho) (fp' : Fps) (cls : Value) (dd : Option Addr), EnvOk F' G' H' σ' ρ' fp' → maskR io ρ' = outs → XR c x cls dd → E cls dd H'
  | .bad => False
def spOf (c : Ct) (d : Def) (N : List Str) (run : List D → FR) : Sp := fun vs H Q E => vs.length = d.np ∧ ∃ (G : Hp) (ds : List D) (as : List Addr) (fp : Fps), ds.length = d.np ∧ as.length = d.ps.length ∧
  EnvOk ⟨c, H, G, as, d.ps⟩ G H (start N vs) (startR d ds) fp ∧ EndP c ⟨c, H, G, as, d.ps⟩ d.io H fp Q E (run ds)

section
variable {F : Fm} {W : WXt} {G G' H H' : Hp} {σ σ' : L2.St} {ρ ρ' ρ'' : Rho} {fp fp' : Fps} {os : List Opd} {as : List Addr} {io : List Bool} {ps : List Nat}
def fpOf (os : List Opd) (fp fp' : Fps) : Fps := fun k => match pOf os k with
  | some p => fp' p
  | none => fp k
/-- behind a call -/
theorem EnvOk.after (E : EnvOk F G H σ ρ fp) (hfit : fitIo io os [] = true) (has : ∀ a ∈ as, ∃ p k : Nat, os[p]? = some (.s k) ∧ a ∈ fp k)
    (hps : ∀ p k : Nat, os[p]? = some (.s k) → ∃ (a : Addr) (m : Nat), σ[k]? = some (some (.ref a)) ∧ ps[m]? = some p ∧ as[m]? = some a)
    (E' : EnvOk ⟨F.c, H, G, as, ps⟩ G' H' σ' ρ' fp') (hpb : putBack io os (maskR io ρ') ρ = some ρ'') :
    EnvOk F G' H' σ ρ'' (fpOf os fp fp') ∧ Adv G H fp G' H' (fpOf os fp fp') := by
  obtain ⟨b1, b2, b3⟩ := putBack_spec hfit hpb
  obtain ⟨f1, f2, f3, f4⟩ := fit_spec hfit
  have old : ∀ {k : Nat} {b : Addr}, pOf os k = none → b ∈ fp k → b ∉ as := fun {k b} hk hb z => by
    obtain ⟨p, k', h1, h2⟩ := has b z
    have := E.dj k k' b hb h2
    subst this
    exact pOf_none hk p h1
  have keep : ∀ {k : Nat} {b : Addr}, pOf os k = none → b ∈ fp k → H' b = H b := fun {k b} hk hb => by
    obtain ⟨o, ho⟩ := E.fpthere hb
    rw [ho]
    exact E'.kp b o ho (old hk hb)
  have nw : ∀ (a : Addr) o, G' a = some o → G a = some o ∨ H a = none ∨ a ∈ as := E'.nw
  have isnew : ∀ {p : Nat} {b : Addr}, b ∈ fp' p → G' b = none ∧ (H b = none ∨ b ∈ as) := fun {p b} hb => E'.ow p b hb
  refine ⟨⟨E.g0.trans E'.g0, E'.le, fun a o e n => E'.kp a o (E.kp a o e n) fun z => ?_, fun a o e => ?_, fun k d l e => ?_, fun k e => ?_, fun k => ?_, fun k k' a h1 h2 => ?_, fun k a h => ?_, E.io, by rw [b1]; exact E.len⟩,
    E'.g0, fun a o e n => E'.kp a o e fun z => ?_, fun a o e => ?_, fun k a h => ?_⟩
  · obtain ⟨p, k, h1, h2⟩ := has a z
    rcases (E.ow k a h2).2 with q | q
    · rw [q] at e; cases e
    · exact n q
  · rcases nw a o e with z | z | z
    · exact E.nw a o z
    · exact .inr (E.outNone z).1
    · obtain ⟨p, k, h1, h2⟩ := has a z
      exact .inr (E.ow k a h2).2
  · show ∃ v, _ ∧ SlotR F.c G' H' l d v (fpOf os fp fp' k)
    unfold fpOf
    cases hk : pOf os k with
    | some p =>
      have hp := pOf_some hk
      obtain ⟨a, m, h1, h2, h3⟩ := hps p k hp
      obtain ⟨x, h4, h5⟩ := b3 p k hp
      have hlt : k < ρ.length := by
        rw [E.len]; exact (List.getElem?_eq_some_iff.mp h1).1
      rw [h5 hlt] at e
      cases e
      obtain ⟨v, h6, h7⟩ := E'.sl p d l (maskR_get h4)
      have h8 := E'.io m p a h2 h3
      rw [h6] at h8
      cases h8
      exact ⟨_, h1, h7⟩
    | none =>
      rw [b2 k (pOf_none hk)] at e
      obtain ⟨v, h1, h2⟩ := E.sl k d l e
      exact ⟨v, h1, h2.same E'.g0 fun b hb => keep hk hb⟩
  · show fpOf os fp fp' k = []
    unfold fpOf
    cases hk : pOf os k with
    | some p =>
      have hp := pOf_some hk
      obtain ⟨a, m, h1, h2, h3⟩ := hps p k hp
      obtain ⟨x, h4, h5⟩ := b3 p k hp
      have hlt : k < ρ.length := by
        rw [E.len]; exact (List.getElem?_eq_some_iff.mp h1).1
      exact absurd (h5 hlt) (e x.1 x.2)
    | none => exact E.no k fun d l z => e d l (by rw [b2 k (pOf_none hk)]; exact z)
  · show (fpOf os fp fp' k).Nodup
    unfold fpOf
    cases hk : pOf os k with
    | some p => exact E'.nd p
    | none => exact E.nd k
  · unfold fpOf at h1 h2
    cases hk : pOf os k with
    | some p =>
      rw [hk] at h1
      cases hk' : pOf os k' with
      | some p' =>
        rw [hk'] at h2
        have := E'.dj p p' a h1 h2
        subst this
        have q1 := pOf_some hk
        rw [pOf_some hk'] at q1
        cases q1
        rfl
      | none =>
        rw [hk'] at h2
        rcases (isnew h1).2 with z | z
        · obtain ⟨o, ho⟩ := E.fpthere h2
          rw [z] at ho; cases ho
        · exact absurd z (old hk' h2)
    | none =>
      rw [hk] at h1
      cases hk' : pOf os k' with
      | some p' =>
        rw [hk'] at h2
        rcases (isnew h2).2 with z | z
        · obtain ⟨o, ho⟩ := E.fpthere h1
          rw [z] at ho; cases ho
        · exact absurd z (old hk h1)
      | none =>
        rw [hk'] at h2
        exact E.dj k k' a h1 h2
  · unfold fpOf at h
    cases hk : pOf os k with
    | some p =>
      rw [hk] at h
      refine ⟨(isnew h).1, ?_⟩
      rcases (isnew h).2 with z | z
      · exact (E.outNone z).1
      · obtain ⟨p, k, h1, h2⟩ := has a z
        exact (E.ow k a h2).2
    | none =>
      rw [hk] at h
      refine ⟨?_, (E.ow k a h).2⟩
      cases q : G' a with
      | none => rfl
      | some o =>
        rcases nw a o q with z | z | z
        · rw [(E.ow k a h).1] at z; cases z
        · obtain ⟨o', ho⟩ := E.fpthere h
          rw [z] at ho; cases ho
        · exact absurd z (old hk h)
  · obtain ⟨p, k, h1, h2⟩ := has a z
    exact n k h2
  · rcases nw a o e with z | z | z
    · exact .inl z
    · exact .inr (.inl z)
    · obtain ⟨p, k, h1, h2⟩ := has a z
      exact .inr (.inr ⟨k, h2⟩)
  · unfold fpOf at h
    cases hk : pOf os k with
    | some p =>
      rw [hk] at h
      rcases (isnew h).2 with z | z
      · exact .inl z
      · obtain ⟨p, k, h1, h2⟩ := has a z
        exact .inr ⟨k, h2⟩
    | none =>
      rw [hk] at h
      exact .inr ⟨k, h⟩
theorem ResR.after (E : EnvOk F G H σ ρ fp) (has : ∀ a ∈ as, ∃ p k : Nat, os[p]? = some (.s k) ∧ a ∈ fp k) {fp0 : Fps} (h0 : ∀ i b, b ∈ fp0 i → b ∈ as) {q : D × Nat} {v : V}
    (r : ResR ⟨F.c, H, G, as, ps⟩ H fp0 G' H' fp' q v) : ResR F H fp G' H' (fpOf os fp fp') q v := by
  obtain ⟨l, h1, h2, h3⟩ := r
  refine ⟨l, h1, h2, fun b hb => ?_⟩
  obtain ⟨a1, a2, a3, a4⟩ := h3 b hb
  have a2 : H b = none ∨ b ∈ as := a2
  refine ⟨a1, ?_, fun k => ?_, ?_⟩
  · rcases a2 with z | z
    · exact (E.outNone z).1
    · obtain ⟨p, k, h1, h2⟩ := has b z
      exact (E.ow k b h2).2
  · unfold fpOf
    cases hk : pOf os k with
    | some p => exact a3 p
    | none =>
      intro z
      rcases a2 with y | y
      · obtain ⟨o', ho⟩ := E.fpthere z
        rw [y] at ho; cases ho
      · obtain ⟨p, k', h1, h2⟩ := has b y
        have := E.dj k k' b z h2
        subst this
        exact pOf_none hk p h1
  · rcases a4 with z | ⟨i, z⟩
    · exact .inl z
    · obtain ⟨p, k, h1, h2⟩ := has b (h0 i b z)
      exact .inr ⟨k, h2⟩
end
end Ev
end
section
set_option Elab.async false
set_option linter.all false
set_option maxRecDepth 100000
set_option maxHeartbeats 4000000
set_option autoImplicit false
namespace Ev
open PySem PySem.Spec PyProof.Rows L2

def adr : V → Addr
  | .ref a => a
  | _ => 0
theorem rdOs_spec {ρ : Rho} : ∀ {os : List Opd} {ds : List D}, rdOs ρ os = some ds → ds.length = os.length ∧ ∀ (i : Nat) o, os[i]? = some o → ∃ d, ds[i]? = some d ∧ rdO ρ o = some d
  | [], ds, e => by
    simp only [rdOs, Option.some.injEq] at e
    subst e
    exact ⟨rfl, fun i o z => by simp at z⟩
  | o :: os, ds, e => by
    simp only [rdOs] at e
    split at e
    · rename_i d ds' h1 h2
      cases e
      obtain ⟨q1, q2⟩ := rdOs_spec h2
      refine ⟨by simp [q1], fun i o' z => ?_⟩
      cases i with
      | zero => simp at z; subst z; exact ⟨d, rfl, h1⟩
      | succ i => simpa using q2 i o' (by simpa using z)
    · cases e
theorem mem_ps {d : Def} {p : Nat} : p ∈ d.ps ↔ p < d.np ∧ d.io.getD p false = true := by
  unfold Def.ps
  simp [List.mem_filter, List.mem_range]
theorem startR_get {d : Def} {ds : List D} {i : Nat} {x : D} {l : Nat} (hio : d.io.length = d.np) (hl : ds.length = d.np) (h : (startR d ds)[i]? = some (some (x, l))) : ∃ b, i < d.np ∧ ds[i]? = some x ∧ d.io[i]? = some b ∧ l = if b then 1 else 0 := by
  unfold startR at h
  by_cases hi : i < d.np
  · have h1 : i < ds.length := by omega
    have h2 : i < d.io.length := by omega
    have ez : (ds.zip d.io)[i]? = some (ds[i], d.io[i]) := List.getElem?_zip_eq_some.mpr ⟨List.getElem?_eq_getElem h1, List.getElem?_eq_getElem h2⟩
    rw [List.getElem?_append_left (by simp [hio, hl]; exact hi), List.getElem?_map, ez] at h
    simp at h
    obtain ⟨rfl, h⟩ := h
    exact ⟨d.io[i], hi, List.getElem?_eq_getElem (by omega), List.getElem?_eq_getElem (by omega), by simp [← h]⟩
  · rw [List.getElem?_append_right (by simp [hio, hl]; omega), List.getElem?_replicate] at h
    split at h <;> cases h
theorem startR_io {d : Def} {ds : List D} {i : Nat} (hio : d.io.length = d.np) (hl : ds.length = d.np) (hi : i < d.np) : ∃ x, ds[i]? = some x ∧ (startR d ds)[i]? = some (some (x, if d.io.getD i false then 1 else 0)) := by
  have h1 : i < ds.length := by omega
  have h2 : i < d.io.length := by omega
  have ez : (ds.zip d.io)[i]? = some (ds[i], d.io[i]) := List.getElem?_zip_eq_some.mpr ⟨List.getElem?_eq_getElem h1, List.getElem?_eq_getElem h2⟩
  refine ⟨ds[i], List.getElem?_eq_getElem (by omega), ?_⟩
  unfold startR
  rw [List.getElem?_append_left (by simp [hio, hl]; exact hi), List.getElem?_map, ez]
  simp [List.getElem?_eq_getElem (show i < d.io.length by omega)]
theorem start_get {N : List Str} {vs : List V} {i : Nat} {v : V} (h : vs[i]? = some v) : (start N vs)[i]? = some (some v) := by
  unfold L2.start
  have hi := (List.getElem?_eq_some_iff.mp h).1
  rw [List.getElem?_append_left (by simpa using hi), List.getElem?_map, h]; rfl

section
variable {F : Fm} {W : WXt} {G H H0 : Hp} {σ : L2.St} {ρ : Rho} {fp fp0 : Fps} {os : List Opd} {vs : List V} {ds : List D} {d : Def} {N : List Str}
theorem EnvOk.enter (E : EnvOk F G H σ ρ fp) (hio : d.io.length = d.np) (hN : N.length = d.ns) (hns : d.np ≤ d.ns) (hfit : fitIo d.io os [] = true) (ro : OpdRs F σ H0 fp0 G H fp os vs) (hd : rdOs ρ os = some ds) :
    ∃ as fp1, EnvOk ⟨F.c, H, G, as, d.ps⟩ G H (start N vs) (startR d ds) fp1 ∧ as.length = d.ps.length ∧ ds.length = d.np ∧ vs.length = d.np ∧ (∀ a ∈ as, ∃ p k : Nat, os[p]? = some (.s k) ∧ a ∈ fp k) ∧
      (∀ p k : Nat, os[p]? = some (.s k) → ∃ (a : Addr) (m : Nat), σ[k]? = some (some (.ref a)) ∧ d.ps[m]? = some p ∧ as[m]? = some a) ∧ ∀ i b, b ∈ fp1 i → b ∈ as := by
  obtain ⟨f1, f2, f3, f4⟩ := fit_spec hfit
  obtain ⟨r1, r2⟩ := rdOs_spec hd
  obtain ⟨l1, l2⟩ := ro
  have ld : ds.length = d.np := by omega
  have lv : vs.length = d.np := by omega
  -- an own argument
  have own : ∀ p, p ∈ d.ps → ∃ k x a, os[p]? = some (.s k) ∧ vs[p]? = some (.ref a) ∧ ds[p]? = some x ∧ σ[k]? = some (some (.ref a)) ∧ fp k = [a] ∧ RepT F.c G H x a := by
    intro p hp
    obtain ⟨h1, h2⟩ := mem_ps.mp hp
    have ho : os[p]? = some os[p] := List.getElem?_eq_getElem (by omega)
    have hv : vs[p]? = some vs[p] := List.getElem?_eq_getElem (by omega)
    obtain ⟨x, hx, hr⟩ := r2 p _ ho
    have hR := l2 p _ _ ho hv
    cases q : os[p] with
    | v x' =>
      rw [q] at ho
      have := f3 p x' ho
      rw [List.getD_eq_getElem?_getD, this] at h2
      cases h2
    | s k =>
      rw [q] at ho hr hR
      simp only [rdO] at hr
      split at hr
      · rename_i x' e
        cases hr
        obtain ⟨v, h3, a, rfl, h5, h6⟩ := E.sl k x 1 e
        have hR : σ[k]? = some (some vs[p]) := hR
        rw [h3] at hR
        have hR2 : V.ref a = vs[p] := Option.some.inj (Option.some.inj hR)
        refine ⟨k, x, a, ho, by rw [hv, hR2], hx, h3, h5, h6⟩
      · cases hr
  have adr_ : ∀ p, p ∈ d.ps → ∃ k, os[p]? = some (.s k) ∧ fp k = [adr (vs.getD p .non)] := fun p hp => by
    obtain ⟨k, x, a, h1, h2, _, _, h3, _⟩ := own p hp
    refine ⟨k, h1, ?_⟩
    rw [List.getD_eq_getElem?_getD, h2]; exact h3
  refine ⟨d.ps.map fun p => adr (vs.getD p .non), fun p => if p ∈ d.ps then [adr (vs.getD p .non)] else [], ⟨Same.refl _, E.le, fun a o e _ => e, fun a o e => .inl e, fun i x l e => ?_, fun i e => ?_, fun i => ?_, fun i j a h1 h2 => ?_, fun i a h => ?_, fun k p a h1 h2 => ?_, ?_⟩, List.length_map _, ld, lv, fun a ha => ?_, fun p k h => ?_, fun i b h => ?_⟩
  · obtain ⟨b, hi, hx, hb, rfl⟩ := startR_get hio ld e
    have hv : vs[i]? = some vs[i] := List.getElem?_eq_getElem (by omega)
    refine ⟨vs[i], start_get hv, ?_⟩
    cases b with
    | true =>
      have hp : i ∈ d.ps := mem_ps.mpr ⟨hi, by rw [List.getD_eq_getElem?_getD, hb]; rfl⟩
      obtain ⟨k, x', a, h1, h2, h3, h4, h5, h6⟩ := own i hp
      rw [hx] at h3
      cases h3
      rw [hv] at h2
      have h2 : vs[i] = V.ref a := Option.some.inj h2
      simp only [if_pos hp, if_true]
      refine ⟨a, h2, ?_, h6⟩
      rw [List.getD_eq_getElem?_getD, hv, h2]; rfl
    | false =>
      have hp : i ∉ d.ps := fun z => by
        obtain ⟨_, z⟩ := mem_ps.mp z
        rw [List.getD_eq_getElem?_getD, hb] at z
        cases z
      simp only [if_neg hp]
      have ho : os[i]? = some os[i] := List.getElem?_eq_getElem (by omega)
      have hR := l2 i _ _ ho hv
      obtain ⟨x', hx', hr⟩ := r2 i _ ho
      rw [hx] at hx'
      cases hx'
      cases q : os[i] with
      | v x' =>
        rw [q] at hR hr
        cases hr
        exact ⟨rfl, hR⟩
      | s k =>
        rw [q] at ho
        obtain ⟨z, _⟩ := f2 i k ho
        rw [hb] at z
        cases z
  · show (if i ∈ d.ps then [adr (vs.getD i .non)] else []) = []
    by_cases hp : i ∈ d.ps
    · obtain ⟨h1, h2⟩ := mem_ps.mp hp
      obtain ⟨x, hx, q⟩ := startR_io hio ld h1
      exact absurd q (e _ _)
    · rw [if_neg hp]
  · show (if i ∈ d.ps then [adr (vs.getD i .non)] else []).Nodup
    by_cases hp : i ∈ d.ps
    · rw [if_pos hp]; simp
    · rw [if_neg hp]; simp
  · by_cases hp : i ∈ d.ps
    · by_cases hq : j ∈ d.ps
      · rw [if_pos hp] at h1
        rw [if_pos hq] at h2
        rw [List.mem_singleton] at h1 h2
        obtain ⟨k, o1, e1⟩ := adr_ i hp
        obtain ⟨k', o2, e2⟩ := adr_ j hq
        have := E.dj k k' a (by rw [e1, h1]; exact List.mem_singleton.mpr rfl) (by rw [e2, h2]; exact List.mem_singleton.mpr rfl)
        subst this
        exact f4 i j k o1 o2
      · rw [if_neg hq] at h2; cases h2
    · rw [if_neg hp] at h1; cases h1
  · by_cases hp : i ∈ d.ps
    · rw [if_pos hp, List.mem_singleton] at h
      obtain ⟨k, o1, e1⟩ := adr_ i hp
      refine ⟨(E.ow k a (by rw [e1, h]; exact List.mem_singleton.mpr rfl)).1, .inr ?_⟩
      exact List.mem_map.mpr ⟨i, hp, h.symm⟩
    · rw [if_neg hp] at h; cases h
  · have hp : p ∈ d.ps := List.mem_of_getElem? h1
    have h1 : d.ps[k]? = some p := h1
    have h2 : (d.ps.map fun p => adr (vs.getD p .non))[k]? = some a := h2
    rw [List.getElem?_map, h1] at h2
    simp only [Option.map_some, Option.some.injEq] at h2
    obtain ⟨k', x', a', _, h4, _⟩ := own p hp
    rw [List.getD_eq_getElem?_getD, h4] at h2
    have h2 : a' = a := h2
    subst h2
    exact start_get h4
  · unfold startR L2.start
    rw [List.length_append, List.length_append, List.length_map, List.length_zip, List.length_replicate, List.length_map, List.length_replicate, hio, ld, lv, hN]
    omega
  · obtain ⟨p, hp, rfl⟩ := List.mem_map.mp ha
    obtain ⟨k, h1, h2⟩ := adr_ p hp
    exact ⟨p, k, h1, by rw [h2]; exact List.mem_singleton.mpr rfl⟩
  · obtain ⟨z, _⟩ := f2 p k h
    have hlt : p < d.np := by rw [← hio]; exact (List.getElem?_eq_some_iff.mp z).1
    have hp : p ∈ d.ps := mem_ps.mpr ⟨hlt, by rw [List.getD_eq_getElem?_getD, z]; rfl⟩
    obtain ⟨k', x', a, h1, h2, _, h4, h5, _⟩ := own p hp
    rw [h] at h1
    cases h1
    obtain ⟨m, hm, e⟩ := List.mem_iff_getElem.mp hp
    have hm' : d.ps[m]? = some p := by rw [List.getElem?_eq_getElem hm, e]
    refine ⟨a, m, h4, hm', ?_⟩
    rw [List.getElem?_map, hm']
    simp only [Option.map_some, Option.some.injEq]
    rw [List.getD_eq_getElem?_getD, h2]; rfl
  · have h : b ∈ (if i ∈ d.ps then [adr (vs.getD i V.non)] else []) := h
    by_cases hp : i ∈ d.ps
    · rw [if_pos hp, List.mem_singleton] at h
      exact List.mem_map.mpr ⟨i, hp, h.symm⟩
    · rw [if_neg hp] at h; cases h
/-- a call, its operands read -/
theorem call_core {T : Tb} {j : Nat} {Q : VK} (hT : T.io j = d.io) (hio : d.io.length = d.np) (hN : N.length = d.ns) (hns : d.np ≤ d.ns) (E : EnvOk F G H σ ρ fp) (ro : OpdRs F σ H0 fp0 G H fp os vs)
    (h : OutP F W (ResR F) σ Q G H fp (callR T j os ρ)) : spOf F.c d N (T.run j) vs H Q (WE W σ) := by
  unfold callR at h
  split at h
  · rename_i hfit
    rw [hT] at hfit h
    split at h
    · rename_i ds hd
      obtain ⟨as, fp1, E1, la, ld, lv, has, hps, hfp⟩ := E.enter hio hN hns hfit ro hd
      refine ⟨lv, G, ds, as, fp1, ld, la, E1, ?_⟩
      cases e : T.run j ds with
      | ok r l outs =>
        rw [e] at h
        intro G' H' σ' ρ' fp' v E2 hm r2
        subst hm
        cases q : putBack d.io os (maskR d.io ρ') ρ with
        | none => simp only [q] at h; exact h.elim
        | some ρ'' =>
          simp only [q] at h
          obtain ⟨E3, ad⟩ := EnvOk.after E hfit has hps E2 q
          exact h G' H' _ v ad E3 (ResR.after E has hfp r2)
      | exc x outs =>
        rw [e] at h
        intro G' H' σ' ρ' fp' cls dd E2 hm r2
        subst hm
        cases q : putBack d.io os (maskR d.io ρ') ρ with
        | none => simp only [q] at h; exact h.elim
        | some ρ'' =>
          simp only [q] at h
          obtain ⟨E3, ad⟩ := EnvOk.after E hfit has hps E2 q
          exact h G' H' _ cls dd ad E3 r2
      | bad => rw [e] at h; exact h.elim
    · exact h.elim
  · exact h.elim
end
end Ev
end
section
set_option Elab.async false
set_option linter.all false
set_option maxRecDepth 100000
set_option maxHeartbeats 4000000
set_option autoImplicit false
namespace Ev
open PySem PySem.Spec PyProof.Rows L2
/-! A def's promise where no repr is under way (the guards' list of the stack is empty): as L2.FnOk, with that premise. -/
structure FnG (P : Program) (w : World) (K : PySem.W.Frag) (mg : Str → Option Value) (base : Heap) (CX : CXT) (k : Nat) (f : Addr) (fd : FuncData) (ps : List Str) (sp : Sp) : Prop where
  len : ∀ vs H Q E, sp vs H Q E → vs.length = ps.length
  go : ∀ (A : Around) (outer : List Env) (s : Shared) (H : Hp) (args : Args) (us : List Value) (vs : List V) (Q : VK) (E : XK), A.guards = some [] → Room k A → Env0 P w K mg base A outer s H → BindsTo s fd args (ps.zip us) → Vals vs us → sp vs H Q E →
    codeAny (model P w) A (.call (.ref f) args) (CR CX outer P w H s Q E) s
section
variable {P : Program} {w : World} {K : PySem.W.Frag} {mg : Str → Option Value} {base : Heap} {CX : CXT} {k : Nat} {f : Addr} {fd : FuncData} {ps : List Str} {sp : Sp}
theorem FnG.up {j : Nat} (F : FnG P w K mg base CX j f fd ps sp) (h : j ≤ k) : FnG P w K mg base CX k f fd ps sp := ⟨F.len, fun A outer s H args us vs Q E hg hr => F.go A outer s H args us vs Q E hg (hr.mono h)⟩
/-- the rule for a def, by its body -/
theorem fng_of {N : List Str} {x qual : Str} {params : Arguments} {body : List Stmt} {scope : Scope} {dvs : List V} {kws : List (Str × V)} (FD : FunD K x qual params body scope dvs kws f fd) (S : FnScope N ps scope)
    (len : ∀ vs H Q E, sp vs H Q E → vs.length = ps.length)
    (hb : ∀ (cdv : Value) (A : Around) (outer : List Env) (s : Shared) (H : Hp) (vs : List V) (Q : VK) (E : XK), A.guards = some [] → Room k (A.deeper (envOfC qual scope s.heap.objs.size f cdv)) → sp vs H Q E →
      ∃ t, PSs (cxOf CX P w K mg base N qual scope f cdv A outer s H E) body t ∧ t { nx := fun _ H' => Q .non H', rt := Q } (L2.start N vs) H) : FnG P w K mg base CX (k + 1) f fd ps sp := by
  obtain ⟨oc, od, dV, kV, doc, pm, an, cdv, ct, osl, rfl, lk, hcd, _, _⟩ := FD.ex
  constructor
  · exact len
  · intro A outer s H args us vs Q E hg hr e0 hbind r hsp
    have hl := len _ _ _ _ hsp
    have keepB : ∀ b o, base.get? b = some o → s.heap.get? b = some o := fun b o e => (e0.bs b o e).1
    have KX : K.In s.heap := e0.mod.kin.keeps keepB
    have lim : s.heap.NoLimit := e0.mod.nolimit.keeps keepB
    have kinds : ∀ y ∈ ps.zip us, scope.names.lookup y.1 = some .local ∨ (scope.names.lookup y.1 = some .cell ∧ ((cellsFrom (s.heap.objs.size + 1) scope.names []).lookup y.1).isSome = true) := by
      rintro ⟨n, v⟩ hy
      rcases S.par n (List.of_mem_zip hy).1 with q | q
      · exact .inl q
      · exact .inr ⟨q, PySem.W.cellsFrom_some _ _ _ (.inl q)⟩
    refine codeAny_call_function hr.depth (KX _ _ lk) rfl S.co S.gen rfl (PySem.W.codeRec_of KX hcd) (hbind _ _ _ _ ?_)
    refine wpAny_newFunctionEnv_cells S.kind kinds fun env he s1 x => ?_
    subst he
    refine ⟨lim.keeps x.toInCall.keep, codeAny_func ?_⟩
    obtain ⟨t, ht, hq⟩ := hb cdv A outer s H vs Q E hg (hr.deeper _) hsp
    have I := inv_start (CX := CX) (P := P) (w := w) (E := E) S hr.hd e0 hl r x
    refine wpAny_mono (ht.run [] s1 (L2.start N vs) H _ I hq) (fun fl s' hs => ?_) (fun e s' hs => hs)
    have out : ∀ {σ' : L2.St} {H' : Hp} {v : V} {u : Value}, L2.Inv (cxOf CX P w K mg base N qual scope f cdv A outer s H E) [] σ' H' s' → RelV v u → Q v H' → L2.CE outer P w H s Q u s' := by
      intro σ' H' v u J rv q
      exact ⟨v, H', J.os, J.bare, J.base, J.hok, rv, q⟩
    cases fl with
    | next =>
      obtain ⟨σ', H', J, q⟩ := hs
      exact out (v := V.non) (u := Value.none) J rfl q
    | ret u =>
      obtain ⟨v, σ', H', J, rv, q⟩ := hs
      exact out J rv q
    | brk => exact hs.choose_spec.choose_spec.2.elim
    | cont => exact hs.choose_spec.choose_spec.2.elim
end
section
variable {X : Cx} {CX : CXT} {k : Nat} {f C : Addr} {fd : FuncData} {prm : List Str} {sp : Sp} {E : L2.St → XK} {x m : Str} {p pos apos : Pos} {e o : Expr} {es : List Expr} {ta : TE} {t : TA}
/-- the callee runs -/
theorem run_fng {pins : List (Addr × Obj)} {σ : L2.St} {H : Hp} {s : Shared} {Q : VK} {us : List Value} {vs : List V} (F : FnG X.prog X.w X.K X.mg X.base CX k f fd prm sp) (hgd : X.A.guards = some []) (hr : Room k X.A) (hb : Binds X.K fd prm []) (hx : PassesAt CX X σ (E σ))
    (I : L2.Inv X pins σ H s) (r : Vals vs us) (h : sp vs H Q (E σ)) : wpAny (model X.prog X.w) X.A (call (.ref f) us) (EP X pins σ Q) X.xe s := by
  have hl : us.length = prm.length := by
    have := F.len _ _ _ _ h
    rw [← r.length]; exact this
  have b := hb s us I.kIn (by rw [List.append_nil]; exact hl)
  rw [List.append_nil] at b
  refine wpAny_call (codeAny_mono (F.go X.A X.stack s H ⟨us, []⟩ us vs Q (E σ) hgd hr I.env0 b r h) fun r s' hq => ?_)
  match r, hq with
  | .error e, hq => exact hx pins H s e s' I hq
  | .ok (.ret u), hq => exact I.after hq
  | .ok .next, hq => exact False.elim hq
  | .ok .brk, hq => exact False.elim hq
  | .ok .cont, hq => exact False.elim hq
theorem peg_call (F : FnG X.prog X.w X.K X.mg X.base CX k f fd prm sp) (hgd : X.A.guards = some []) (hr : Room k X.A) (hg : Gl X x) (hm : X.mg x = some (.ref f)) (hk : PySem.W.keepIn X.K (.ref f) = true) (hb : Binds X.K fd prm []) (hx : ∀ σ, PassesAt CX X σ (E σ)) (ha : PA X (e :: es) t)
    (hdb : (x == ("__debug__" : Str)) = false) (he : starEach (e :: es) X.env = (false, eval e X.env) :: starEach es X.env) (hpl : (backTo pos (starEach es X.env)).any (·.1) = false) : PE X (.Call (.Name x p) (e :: es) [] pos) (tCallS sp E t) := by
  constructor
  intro pins s σ H Q I h
  refine wpAny_Call_Name_kw (ld_glob I hg hm ?_ hdb)
  exact PySem.W.callWith_K (h₀ := X.base) I.ok.mod.kin hk (thn (ha.run pos pins s σ H _ I h) fun us s1 ⟨vs, H1, I1, r, q⟩ => ⟨I1.kIn, run_fng F hgd hr hb (hx σ) I1 r q⟩) he hpl
/-- a class called: its instance, then __init__ -/
theorem run_makeg {pins : List (Addr × Obj)} {σ : L2.St} {H : Hp} {s : Shared} {Q : VK} {us : List Value} {vs : List V} {E : XK} (M : Mk X.K C f) (F : FnG X.prog X.w X.K X.mg X.base CX k f fd prm sp) (hgd : X.A.guards = some []) (hr : Room (k + 1) X.A) (hb : Binds X.K fd prm []) (hx : Passes CX X E) (I : L2.Inv X pins σ H s) (r : Vals vs us)
    (h : ∀ x dx, H x = none → H dx = none → dx ≠ x → sp (.ref x :: vs) (upd (upd H dx (.own x)) x (.ins C dx [])) (fun v H2 => v = .non ∧ Q (.ref x) H2) E) : wpAny (model X.prog X.w) X.A (call (.ref C) us) (EP X pins σ Q) X.xe s := by
  have hq := h (s.heap.objs.size + 1) s.heap.objs.size (I.hok.fresh (Nat.le_succ _)) (I.hok.fresh (Nat.le_refl _)) (Nat.ne_of_lt (Nat.lt_succ_self _))
  have J := Inv.made (C := C) I
  have r2 : Vals (V.ref (s.heap.objs.size + 1) :: vs) (Value.ref (s.heap.objs.size + 1) :: us) := .cons rfl r
  have hl : (Value.ref (s.heap.objs.size + 1) :: us).length = prm.length := by
    rw [← F.len _ _ _ _ hq, r2.length]
  have b := hb _ (Value.ref (s.heap.objs.size + 1) :: us) J.kIn (by rw [List.append_nil]; exact hl)
  rw [List.append_nil] at b
  have gd : (X.A.under (.builtin "type.__call__" ⟨.ref C :: us, []⟩)).guards = some [] := hgd
  refine wpAny_call (make_map (f := f) I.kIn M.makes M.init (beq_iff_eq.mp M.fn) (codeAny_mono (F.go _ X.stack _ _ ⟨_, []⟩ _ _ _ E gd (hr.make C us []) (J.env0.make C us []) b r2 hq) fun r s' hq' => ?_))
  match r, hq' with
  | .error e, hq' => exact hx pins σ _ _ e s' J hq'
  | .ok (.ret u), hq' =>
    obtain ⟨v, H', I3, rv, ev, q3⟩ := J.after hq'
    subst ev
    exact ⟨rv, ⟨V.ref (s.heap.objs.size + 1), H', I3, rfl, q3⟩⟩
  | .ok .next, hq' => exact False.elim hq'
  | .ok .brk, hq' => exact False.elim hq'
  | .ok .cont, hq' => exact False.elim hq'
theorem peg_make {E : XK} (M : Mk X.K C f) (F : FnG X.prog X.w X.K X.mg X.base CX k f fd prm sp) (hgd : X.A.guards = some []) (hr : Room (k + 1) X.A) (hg : Gl X x) (hm : X.mg x = some (.ref C)) (hb : Binds X.K fd prm []) (hx : Passes CX X E) (ha : PA X (e :: es) t)
    (hdb : (x == ("__debug__" : Str)) = false) (he : starEach (e :: es) X.env = (false, eval e X.env) :: starEach es X.env) (hpl : (backTo pos (starEach es X.env)).any (·.1) = false) : PE X (.Call (.Name x p) (e :: es) [] pos) (tMake C sp [] E t) := by
  constructor
  intro pins s σ H Q I h
  refine wpAny_Call_Name_kw (ld_glob I hg hm ?_ hdb)
  refine PySem.W.callWith_K (h₀ := X.base) I.ok.mod.kin M.kp (thn (ha.run pos pins s σ H _ I h) fun us s1 ⟨vs, H1, I1, r, q⟩ => ⟨I1.kIn, ?_⟩) he hpl
  refine run_makeg M F hgd hr hb hx I1 r fun x dx a1 a2 a3 => ?_
  have := q x dx a1 a2 a3
  rw [List.append_nil] at this
  exact this
end
/-! ### the law's own call -/
theorem lawg {P : Program} {w : World} {K : PySem.W.Frag} {mg mb : Str → Option Value} {CX : CXT} {k : Nat} {fa a : Addr} {fd : FuncData} {x : Str} {sp : Sp} {s₁ : Shared} {vs : List Value} {ns : List Int} (KX : K.In s₁.heap) (hns : s₁.heap.Ns mainGlobals mg) (hb : s₁.heap.Ns builtinsNs mb)
    (hbb : ∀ x : Str, x ≠ "__name__" → mb x = bootBuiltins x) (hlim : s₁.heap.NoLimit) (hg : s₁.gens = #[]) (ha : s₁.heap.get? a = some { cls := .type "list", data := .seq vs.toArray }) (hi : IntsAre vs ns) (hl : ns.length ≤ sizeLine) (hr : Room k callerA)
    (F : ∀ base : Heap, K.In base → base.Ns mainGlobals mg → FnG P w K mg base CX k fa fd [x] sp) (hbind : ∀ (s : Shared) (u : Value), BindsTo s fd ⟨[u], []⟩ [(x, u)]) (hsp : ∀ H : Hp, SqL K H a (ns.map V.int) → sp [.ref a] H (fun v _ => v = .bl true) fun _ _ _ => False)
    (hCX : ∀ H e s', CX [] H s₁ (fun _ _ _ => False) e s' → False) : codeAny (model P w) callerA (.call (.ref fa) ⟨[.ref a], []⟩) (fun r s' => r = .ok (.ret (.bool true)) ∧ OldK s₁.heap s'.heap ∧ s'.os = s₁.os ∧ AllBare s'.gens) s₁ := by
  have rv := vals_ints hi
  have lenV := hi.length
  have core : ∀ H : Hp, Only H → SqL K H a (ns.map V.int) → HOk P w H s₁.heap → (∀ b, H b ≠ none → b = a) → (H a ≠ none → K.lookup a = none) → codeAny (model P w) callerA (.call (.ref fa) ⟨[.ref a], []⟩)
      (fun r s' => r = .ok (.ret (.bool true)) ∧ OldK s₁.heap s'.heap ∧ s'.os = s₁.os ∧ AllBare s'.gens) s₁ := by
    intro H hO hS hok hA hK
    have noH : ∀ {b : Addr}, b ≠ a → H b = none := fun {b} hb => Classical.byContradiction fun z => hb (hA b z)
    have notA : ∀ {b : Addr} {ob : Obj} {es : Array DictEntry} {ep : Nat}, s₁.heap.get? b = some ob → ob.data = .dict es ep → H b = none := by
      intro b ob es ep e d
      refine noH fun z => ?_
      subst z
      rw [ha] at e
      cases e
      have d' : Data.seq vs.toArray _ = Data.dict es ep := d
      cases d'
    have nsK : ∀ {b : Addr} {m : Str → Option Value}, s₁.heap.Ns b m → (hidT s₁.heap H).Ns b m := by
      rintro b m ⟨ob, es, ep, e, d, r⟩
      exact ⟨ob, es, ep, hidT_get e (notA e d), d, r⟩
    have inK : K.In (hidT s₁.heap H) := by
      intro b ob e
      refine hidT_get (KX b ob e) (Classical.byContradiction fun z => ?_)
      have := hA b z
      subst this
      rw [hK z] at e; cases e
    have modK : Mod K mg (hidT s₁.heap H) := by
      obtain ⟨mc, h1, h2⟩ := hlim
      exact ⟨inK, nsK hns, ⟨mb, nsK hb, hbb⟩, ⟨mc, nsK h1, h2⟩⟩
    have e0 : Env0 P w K mg (hidT s₁.heap H) callerA [] s₁ H := { frames := rfl, mod := modK, bs := fun b ob e => of_hidT e, bsz := Nat.le_of_eq (hidT_size _ _), funs := trivial, frf := fun b z => absurd (show b ∈ ([] : List Addr) from z) (by simp), hok := hok, bare := .of_eq hg }
    have main := (F _ inK (nsK hns)).go callerA [] s₁ H ⟨[.ref a], []⟩ [.ref a] [.ref a] _ _ rfl hr e0 (hbind s₁ (.ref a)) (.cons rfl .nil) (hsp H hS)
    refine codeAny_mono main fun r s' h => ?_
    match r, h with
    | .error e, h => exact (hCX H e s' h).elim
    | .ok .next, h => exact False.elim h
    | .ok .brk, h => exact False.elim h
    | .ok .cont, h => exact False.elim h
    | .ok (.ret u), h =>
      obtain ⟨v, H', os, bare, un, hok', r', q⟩ := h
      have q' : v = .bl true := q
      subst q'
      obtain rfl : u = Value.bool true := r'
      refine ⟨rfl, OldK.of_keep fun b ob e => ?_, os, bare⟩
      rcases hO b with z | ⟨o2, xs, z⟩
      · exact un.keep b ob e z (fun z => absurd (show b ∈ ([] : List Addr) from z) (by simp)) (by simp)
      · obtain ⟨e1, _⟩ := hok b _ z
        obtain ⟨e2, _⟩ := hok' b _ (un.frzs b o2 _ z)
        rw [e] at e1; cases e1
        exact e2
  cases hk : K.lookup a with
  | some ob =>
    have e := KX a ob hk
    rw [ha] at e
    cases e
    exact core (fun _ => none) (fun _ => .inl rfl) (.inr ⟨_, vs.toArray, _, hk, rfl, rfl, rfl, by rw [List.size_toArray, lenV]; exact hl, by simpa using rv⟩) (fun b u z => nomatch (show (none : Option HO) = some u from z)) (fun b z => absurd rfl z) (fun z => absurd rfl z)
  | none =>
    refine core (upd (fun _ => none) a (.frz { cls := .type "list", data := .seq vs.toArray } (.lst (ns.map V.int)))) (fun b => ?_) (.inl (.inr ⟨{ cls := .type "list", data := .seq vs.toArray }, upd_same⟩)) (fun b u z => ?_) (fun b z => ?_) (fun _ => hk)
    · by_cases h : b = a
      · subst h; exact .inr ⟨_, _, upd_same⟩
      · exact .inl (upd_ne h)
    · by_cases h : b = a
      · subst h
        rw [upd_same] at z
        cases z
        exact ⟨ha, by rw [List.length_map]; exact hl, vs, _, rv, ha⟩
      · rw [upd_ne h] at z; cases z
    · by_cases h : b = a
      · exact h
      · exact absurd (upd_ne h) z
/-- a law's end over a head by facts -/
theorem walkg {l : PySem.W.OpenLaw} {n k : Nat} {q : Program} {loose : List Str} {XP : (Str → Option Value) → Heap → Prop} {YP : World → Heap → Prop} {d : DefRec} {CX : World → CXT} {x : Str} (hn : l.most = some n) (hn2 : n ≤ sizeLine) (hdf : d.params.defaults = []) (hr : Room k callerA)
    (F : ∀ (w : World) (mg : Str → Option Value) (fa : Addr) (h : Heap), YP w h → h.Ns mainGlobals mg → mg d.name = some (.ref fa) → ∃ (K : PySem.W.Frag) (fd : FuncData) (sp : Sp), K.In h ∧ (∀ (s : Shared) (u : Value), BindsTo s fd ⟨[u], []⟩ [(x, u)]) ∧
        (∀ (H : Hp) (a : Addr) (ns : List Int), SqL K H a (ns.map V.int) → sp [.ref a] H (fun v _ => v = .bl true) fun _ _ _ => False) ∧ ∀ base : Heap, K.In base → base.Ns mainGlobals mg → FnG l.prog w K mg base (CX w) k fa fd [x] sp)
    (hCX : ∀ (w : World) (H : Hp) (s : Shared) (e : Value) (s' : Shared), CX w [] H s (fun _ _ _ => False) e s' → False) : PySem.W.WalkO q loose XP YP l.row.toRowW d [] (fun f vs => PySem.call f vs) := by
  refine Att.attach_call hn hdf ?_
  intro w s₀ s₁ mg mb fa o pm cd doc a vs ns G Y ho hd hcd hmg hobj hints hlen hg
  obtain ⟨K, fd, sp, KX, hb, hsp, hF⟩ := F w mg fa _ Y G.T.g hmg
  exact lawg KX G.T.g G.T.b G.T.builtins G.T.nolimit hg hobj hints (Nat.le_trans hlen hn2) hr hF hb (fun H hS => hsp H a ns hS) fun H e s' => hCX w H s₁ e s'
end Ev
end
section
set_option Elab.async false
set_option linter.all false
set_option maxRecDepth 100000
set_option maxHeartbeats 4000000
set_option autoImplicit false
namespace Ev
open PySem PySem.Spec PyProof.Rows L2

/-- def j, at level k: what the calls lean on -/
structure FnHas (P : Program) (w : World) (K : PySem.W.Frag) (mg : Str → Option Value) (base : Heap) (c : Ct) (T : Tb) (k j : Nat) : Prop where
  ex : ∃ (fd : FuncData) (prm : List Str) (d : Def) (N : List Str), FnG P w K mg base (L2.CX P w) k (c.fa j) fd prm (spOf c d N (T.run j)) ∧ PySem.W.keepIn K (.ref (c.fa j)) = true ∧ Binds K fd prm [] ∧ T.io j = d.io ∧ d.io.length = d.np ∧ N.length = d.ns ∧ d.np ≤ d.ns

section
variable {X : Cx} {F : Fm} {W : WXt}
variable {a b e1 e2 e3 : Expr} {A B C : EvR} {pos p : Pos} {ca cb cc : CE}
theorem pl_tail {es : List Expr} {e : Expr} (hs : SndA X F W A (e :: es)) (he : starEach (e :: es) X.env = (false, eval e X.env) :: starEach es X.env) (pos : Pos) : (backTo pos (starEach es X.env)).any (·.1) = false := by
  have pl1 := hs.pl pos
  rw [he] at pl1
  have z : (false || (backTo pos (starEach es X.env)).any (·.1)) = false := pl1
  rw [Bool.false_or] at z
  exact z
theorem pe_callS0 {CX : CXT} {k : Nat} {f : Addr} {fd : FuncData} {ps : List Str} {sp : Sp} {E : L2.St → XK} {x : Str} (F : FnG X.prog X.w X.K X.mg X.base CX k f fd ps sp) (hgd : X.A.guards = some []) (hr : Room k X.A) (hg : Gl X x) (hm : X.mg x = some (.ref f)) (hk : PySem.W.keepIn X.K (.ref f) = true)
    (hb : Binds X.K fd ps []) (hx : ∀ σ, PassesAt CX X σ (E σ)) (hdb : (x == ("__debug__" : Str)) = false) : PE X (.Call (.Name x p) [] [] pos) (tCallS sp E tNil) := by
  refine ⟨fun pins s σ H Q I h => ?_⟩
  refine wpAny_Call_Name_kw (ld_glob I hg hm ?_ hdb)
  exact PySem.W.callWith_K0 I.kIn hk (run_fng (us := []) F hgd hr hb (hx σ) I .nil h)
variable {T : Tb} {ps : List Nat} {k j : Nat}
theorem snd_call {x : Str} {es : List Expr} {e : Expr} (hK : X.K = F.c.K) (tk : Takes X W) (hgd : X.A.guards = some []) (hr : Room k X.A) (fh : FnHas X.prog X.w X.K X.mg X.base F.c T k j) (hg : Gl X x) (hm : X.mg x = some (.ref (F.c.fa j))) (hdb : (x == ("__debug__" : Str)) = false)
    (hs : SndA X F W A (e :: es)) (he : starEach (e :: es) X.env = (false, eval e X.env) :: starEach es X.env) :
    Snd X F W (mkR (.call j ca) fun ρ => (A.ca (T.io j) ρ).bind fun os ρ1 => callR T j os ρ1) (.Call (.Name x p) (e :: es) [] pos) := by
  obtain ⟨fd, prm, d, N, hF, hk, hb, h1, h2, h3, h4⟩ := fh.ex
  refine snd_mk hK (PE.weak (peg_call hF hgd hr hg hm hk hb (fun σ => passAt tk σ) (hs.ca (T.io j)) hdb he (pl_tail hs he pos)) fun σ H Q ⟨G, ρ, fp, E, h⟩ => ?_) rfl (fun _ => rfl) fun _ _ => rfl
  refine tP.bind back_res E h fun os ρ1 G1 H1 fp1 vs e ad E1 r1 h1' => ?_
  exact call_core h1 h2 h3 h4 E1 r1 h1'
theorem snd_call0 {x : Str} {T' : Tb} {ps' : List Nat} (hK : X.K = F.c.K) (tk : Takes X W) (hgd : X.A.guards = some []) (hr : Room k X.A) (fh : FnHas X.prog X.w X.K X.mg X.base F.c T k j) (hg : Gl X x) (hm : X.mg x = some (.ref (F.c.fa j))) (hdb : (x == ("__debug__" : Str)) = false) :
    Snd X F W (mkR (.call j .nil) fun ρ => ((ev T' ps' .nil).ca (T.io j) ρ).bind fun os ρ1 => callR T j os ρ1) (.Call (.Name x p) [] [] pos) := by
  obtain ⟨fd, prm, d, N, hF, hk, hb, h1, h2, h3, h4⟩ := fh.ex
  refine snd_mk hK (PE.weak (pe_callS0 hF hgd hr hg hm hk hb (fun σ => passAt tk σ) hdb) fun σ H Q ⟨G, ρ, fp, E, h⟩ => ?_) rfl (fun _ => rfl) fun _ _ => rfl
  show spOf F.c d N (T.run j) [] H Q (WE W σ)
  have h : OutP F W (ResR F) σ Q G H fp (((ev T' ps' .nil).ca (T.io j) ρ).bind fun os ρ1 => callR T j os ρ1) := h
  cases e : T.io j with
  | nil =>
    rw [e] at h
    exact call_core h1 h2 h3 h4 E (H0 := H) (fp0 := fp) .nil h
  | cons b bs =>
    rw [e] at h
    exact h.elim
/-- a def that stands in a slot -/
def HeldX (X : Cx) (k : Nat) (f : Addr) (sp : Sp) : Prop := ∃ (fd : FuncData) (ps : List Str), FnG X.prog X.w X.K X.mg X.base (L2.CX X.prog X.w) k f fd ps sp ∧ PySem.W.keepIn X.K (.ref f) = true ∧ Binds X.K fd ps []
def tCallX (X : Cx) (k i : Nat) (E : L2.St → XK) (t : L2.St → Hp → Addr → (List V → Hp → Prop) → Prop) : TE := fun σ H Q => ∃ f sp, σ[i]? = some (some (.ref f)) ∧ HeldX X k f sp ∧ t σ H f fun vs H1 => sp vs H1 Q (E σ)
theorem pe_callX {i : Nat} {x : Str} {es : List Expr} {e : Expr} {E : L2.St → XK} {t : Addr → TA} (hgd : X.A.guards = some []) (hr : Room k X.A) (hN : X.N[i]? = some x) (hv : Vis X.env.scope x) (hx : ∀ σ, PassesAt (L2.CX X.prog X.w) X σ (E σ)) (ha : ∀ f, PA X (e :: es) (t f))
    (hdb : (x == ("__debug__" : Str)) = false) (hcd : (x == ("__classdict__" : Str)) = false)
    (he : starEach (e :: es) X.env = (false, eval e X.env) :: starEach es X.env) (hpl : (backTo pos (starEach es X.env)).any (·.1) = false) : PE X (.Call (.Name x p) (e :: es) [] pos) (tCallX X k i E fun σ H f => t f σ H) := by
  refine ⟨fun pins s σ H Q I h => ?_⟩
  obtain ⟨f, sp, hs, ⟨fd, ps, F, hk, hb⟩, ht⟩ := h
  refine wpAny_Call_Name_kw (thn ((pe_var (pos := p) hN hv hdb hcd).run pins s σ H (fun v H1 => v = .ref f ∧ H1 = H) I ⟨.ref f, hs, rfl, rfl⟩) fun u s1 ⟨v, H1, I1, r1, q1⟩ => ?_)
  obtain ⟨rfl, rfl⟩ := q1
  cases r1
  refine PySem.W.callWith_K (h₀ := X.base) I.ok.mod.kin hk (thn ((ha f).run pos pins s1 σ _ _ I1 ht) fun us s2 ⟨vs, H2, I2, r, q⟩ => ⟨I2.kIn, ?_⟩) he hpl
  exact run_fng F hgd hr hb (hx σ) I2 r q
theorem snd_cav {i : Nat} {x : Str} {es : List Expr} {e : Expr} (hK : X.K = F.c.K) (tk : Takes X W) (hgd : X.A.guards = some []) (hr : Room k X.A) (fh : ∀ j, j < T.n → FnHas X.prog X.w X.K X.mg X.base F.c T k j)
    (hN : X.N[i]? = some x) (hv : Vis X.env.scope x) (hdb : (x == ("__debug__" : Str)) = false) (hcd : (x == ("__classdict__" : Str)) = false)
    (hs : SndA X F W A (e :: es)) (he : starEach (e :: es) X.env = (false, eval e X.env) :: starEach es X.env) :
    Snd X F W (mkR (.cav i ca) fun ρ => match ρ[i]? with
      | some (some (.fn j, 0)) => if j < T.n then (A.ca (T.io j) ρ).bind fun os ρ1 => callR T j os ρ1 else .bad
      | _ => .bad) (.Call (.Name x p) (e :: es) [] pos) := by
  have hpa : ∀ f : Addr, PA X (e :: es) (fun σ H Q => ∃ j, j < T.n ∧ F.c.fa j = f ∧ (tAo F W (A.ca (T.io j))) σ H Q) := fun f => ⟨fun pos pins s σ H Q I ⟨j, _, _, h⟩ => (hs.ca (T.io j)).run pos pins s σ H Q I h⟩
  refine snd_mk hK (PE.weak (pe_callX (E := WE W) hgd hr hN hv (fun σ => passAt tk σ) hpa hdb hcd he (pl_tail hs he pos)) fun σ H Q ⟨G, ρ, fp, E, h⟩ => ?_) rfl (fun _ => rfl) fun _ _ => rfl
  dsimp only at h
  split at h
  · rename_i j e0
    split at h
    · rename_i hj
      obtain ⟨fd, prm, d, N, hF, hk, hb, h1, h2, h3, h4⟩ := (fh j hj).ex
      obtain ⟨v, hv, _, hr⟩ := E.sl i _ 0 e0
      simp only [RepF] at hr
      subst hr
      refine ⟨F.c.fa j, spOf F.c d N (T.run j), hv, ⟨fd, prm, hF, hk, hb⟩, j, hj, rfl, ?_⟩
      refine tP.bind back_res E h fun os ρ1 G1 H1 fp1 vs e ad E1 r1 h1' => ?_
      exact call_core h1 h2 h3 h4 E1 r1 h1'
    · exact h.elim
  · exact h.elim

/-! ### methods of own instances -/
def tMethS (C : Addr) (m : Str) (sp : Sp) (E : L2.St → XK) (ta : TE) (t : TA) : TE := fun σ H Q => ta σ H fun x H1 => ∃ a dx fs, x = V.ref a ∧ H1 a = some (.ins C dx fs) ∧ fs.lookup m = none ∧
  t σ H1 fun vs H2 => sp (x :: vs) H2 Q (E σ)
theorem pe_methX {CX : CXT} {f C : Addr} {fd : FuncData} {prm : List Str} {sp : Sp} {E : L2.St → XK} {m : Str} {o : Expr} {ta : TE} {t : TA} {es : List Expr} {e : Expr} {apos : Pos} {pl : Sem Bool} (he : PE X o ta) (c : Cls X.K C) (hm : Meth X.K C m f) (F : FnG X.prog X.w X.K X.mg X.base CX k f fd prm sp) (hgd : X.A.guards = some []) (hr : Room k X.A)
    (hb : Binds X.K fd prm []) (hx : ∀ σ, PassesAt CX X σ (E σ)) (ha : PA X (e :: es) t)
    (hst : starEach (e :: es) X.env = (false, eval e X.env) :: starEach es X.env) (hpl : (backTo pos (starEach es X.env)).any (·.1) = false)
    (ht : eval (.Call (.Attribute o m apos) (e :: es) [] pos) X.env = (do
      let ov ← eval o X.env
      standAt apos.atName
      let (f, first) ← holding [ov] (getMethod ov m pl)
      callWith pos f first (backTo pos (starEach (e :: es) X.env)) (backToKw pos (keywordEach [] X.env)))) :
    PE X (.Call (.Attribute o m apos) (e :: es) [] pos) (tMethS C m sp E ta t) := by
  refine ⟨fun pins s σ H Q I h => ?_⟩
  refine PySem.W.methodCall_KW (pl := pl) (thn (he.run pins s σ H _ I h) fun u s1 ⟨x, H1, I1, rx, a, dx, fs, ex, ea, l, q⟩ => ?_) ht
  subst ex
  obtain rfl : u = Value.ref a := rx
  refine getmeth_ok I1 ea c hm l ?_
  refine PySem.W.callWith_K (first := [.ref a]) (h₀ := X.base) I.ok.mod.kin hm.kp (thn (ha.run pos pins s1 σ H1 _ I1 q) fun us s2 ⟨vs, H2, I2, r, q2⟩ => ⟨I2.kIn, ?_⟩) hst hpl
  exact run_fng (us := .ref a :: us) (vs := .ref a :: vs) F hgd hr hb (hx σ) I2 (.cons rfl r) q2
theorem pe_methX0 {CX : CXT} {f C : Addr} {fd : FuncData} {prm : List Str} {sp : Sp} {E : L2.St → XK} {m : Str} {o : Expr} {ta : TE} {apos : Pos} {pl : Sem Bool} (he : PE X o ta) (c : Cls X.K C) (hm : Meth X.K C m f) (F : FnG X.prog X.w X.K X.mg X.base CX k f fd prm sp) (hgd : X.A.guards = some []) (hr : Room k X.A)
    (hb : Binds X.K fd prm []) (hx : ∀ σ, PassesAt CX X σ (E σ))
    (ht : eval (.Call (.Attribute o m apos) [] [] pos) X.env = (do
      let ov ← eval o X.env
      standAt apos.atName
      let (f, first) ← holding [ov] (getMethod ov m pl)
      callWith pos f first (backTo pos (starEach [] X.env)) (backToKw pos (keywordEach [] X.env)))) :
    PE X (.Call (.Attribute o m apos) [] [] pos) (tMethS C m sp E ta tNil) := by
  refine ⟨fun pins s σ H Q I h => ?_⟩
  refine PySem.W.methodCall_KW (pl := pl) (thn (he.run pins s σ H _ I h) fun u s1 ⟨x, H1, I1, rx, a, dx, fs, ex, ea, l, q⟩ => ?_) ht
  subst ex
  obtain rfl : u = Value.ref a := rx
  refine getmeth_ok I1 ea c hm l ?_
  exact PySem.W.callWith_K0 (first := [.ref a]) I1.kIn hm.kp (run_fng (us := [.ref a]) (vs := [.ref a]) F hgd hr hb (hx σ) I1 (.cons rfl .nil) q)
theorem RepFF.none {c : Ct} {G : Hp} {f : Str} : ∀ {fs : List (Str × D)} {gs : List (Str × V)}, RepFF c G fs gs → fs.lookup f = none → gs.lookup f = none
  | [], gs, h, e => by simp only [RepFF] at h; subst h; rfl
  | (x, d') :: fs, gs, h, e => by
    simp only [RepFF] at h
    obtain ⟨v, r, rfl, h1, h2⟩ := h
    simp only [List.lookup_cons] at e ⊢
    cases hx : f == x with
    | true => rw [hx] at e; cases e
    | false => rw [hx] at e; exact RepFF.none h2 e
theorem insOk_at {G H : Hp} {σ : L2.St} {ρ ρ0 : Rho} {fp : Fps} {i : Nat} {x : V} {m : Str} {o : Opd} {H0 : Hp} {fp0 : Fps} (E : EnvOk F G H σ ρ fp) (e : varO i ρ0 = .ok o ρ) (r : OpdR F σ H0 fp0 G H fp o x) (h : insOk k m i ρ = true) :
    ∃ a dx gs, x = .ref a ∧ H a = some (.ins (F.c.ca k) dx gs) ∧ gs.lookup m = none := by
  unfold insOk at h
  split at h
  · rename_i k' fs q
    rw [Bool.and_eq_true, beq_iff_eq] at h
    obtain ⟨rfl, h⟩ := h
    obtain ⟨v, hv, a, rfl, hf, ht⟩ := E.sl i _ 1 q
    obtain ⟨dx, gs, h1, h2⟩ := ht
    have hx : σ[i]? = some (some x) := by
      unfold varO at e
      split at e
      · cases e
        rename_i d q2
        rw [q] at q2
        cases q2
      · cases e; exact r
      · cases e; exact r
      · cases e
    rw [hv] at hx
    cases hx
    exact ⟨a, dx, gs, rfl, h1, RepFF.none h2 (by simpa using h)⟩
  · cases h
theorem meth_eval {x m : Str} {p apos pos : Pos} {args : List Expr} {env : Env} (hf : methodCallForm (args.length + ([] : List Keyword).length) (backTo pos (starEach args env)) (backToKw pos (keywordEach [] env)) = true) (hl : (apos.endLine == pos.line) = true) :
    eval (.Call (.Attribute (.Name x p) m apos) args [] pos) env = (do
      let ov ← eval (.Name x p) env
      standAt apos.atName
      let (f, first) ← holding [ov] (getMethod ov m (do return (← importBound (.Name x p) env).getD true))
      callWith pos f first (backTo pos (starEach args env)) (backToKw pos (keywordEach [] env))) := by
  have e : methodCallPos true (.Name x p) env apos pos = pure pos := by unfold methodCallPos; rw [hl]; rfl
  show (do
      let ov ← eval (.Name x p) env
      standAt apos.atName
      methodCall (.Name x p) m apos pos env ov (args.length + ([] : List Keyword).length) (backTo pos (starEach args env)) (backToKw pos (keywordEach [] env))) = _
  unfold methodCall
  rw [hf, e]
  simp only [pure_bind]
  rfl
theorem few_of {es : List Expr} {pos : Pos} (pl : (backTo pos (starEach es X.env)).any (·.1) = false) (hl : es.length < 30) : methodCallForm (es.length + ([] : List Keyword).length) (backTo pos (starEach es X.env)) (backToKw pos (keywordEach [] X.env)) = true := by
  unfold methodCallForm
  rw [Bool.and_eq_true, Bool.and_eq_true]
  refine ⟨⟨?_, rfl⟩, by simpa [keywordEach, backToKw] using hl⟩
  rw [List.any_eq_false] at pl
  rw [List.all_eq_true]
  intro y hy
  simpa using pl y hy
theorem snd_omt {kc i : Nat} {x m : Str} {es : List Expr} {e : Expr} {apos : Pos} (hK : X.K = F.c.K) (tk : Takes X W) (hgd : X.A.guards = some []) (hr : Room k X.A) (fh : FnHas X.prog X.w X.K X.mg X.base F.c T k j)
    (c : Cls X.K (F.c.ca kc)) (hm : Meth X.K (F.c.ca kc) m (F.c.fa j)) (hio : (T.io j).head? = some true)
    (hN : X.N[i]? = some x) (hv : Vis X.env.scope x) (hdb : (x == ("__debug__" : Str)) = false) (hcd : (x == ("__classdict__" : Str)) = false)
    (hs : SndA X F W A (e :: es)) (he : starEach (e :: es) X.env = (false, eval e X.env) :: starEach es X.env) (hlen : (e :: es).length < 30) (hline : (apos.endLine == pos.line) = true) :
    Snd X F W (mkR (.omt kc m j i ca) fun ρ => (varO i ρ).bind fun x ρ0 => if insOk kc m i ρ0 then (A.ca (T.io j).tail ρ0).bind fun os ρ1 => callR T j (x :: os) ρ1 else .bad) (.Call (.Attribute (.Name x p) m apos) (e :: es) [] pos) := by
  obtain ⟨fd, prm, d, N, hF, hk, hb, h1, h2, h3, h4⟩ := fh.ex
  have ho : PE X (.Name x p) (tO F W (varO i)) := PE.weak (pe_var hN hv hdb hcd) tO_var
  refine snd_mk hK (PE.weak (pe_methX (E := WE W) ho c hm hF hgd hr hb (fun σ => passAt tk σ) (hs.ca (T.io j).tail) he (pl_tail hs he pos) (meth_eval (few_of (hs.pl pos) hlen) hline)) fun σ H Q ⟨G, ρ, fp, E, h⟩ => ?_) rfl (fun _ => rfl) fun _ _ => rfl
  refine tP.bind back_res E h fun o ρ1 G1 H1 fp1 x e ad E1 r1 h1' => ?_
  split at h1'
  · rename_i hok
    obtain ⟨a, dx, gs, rfl, q1, q2⟩ := insOk_at E1 e r1 hok
    refine ⟨a, dx, gs, rfl, q1, q2, ?_⟩
    refine tP.bind back_res E1 h1' fun os ρ2 G2 H2 fp2 vs e2 ad2 E2 r2 h2' => ?_
    exact call_core h1 h2 h3 h4 E2 (H0 := H1) (fp0 := fp1) (OpdRs.cons (r1.adv ad2.gg) r2) h2'
  · exact h1'.elim
theorem snd_omt0 {kc i : Nat} {x m : Str} {apos : Pos} {T' : Tb} {ps' : List Nat} (hK : X.K = F.c.K) (tk : Takes X W) (hgd : X.A.guards = some []) (hr : Room k X.A) (fh : FnHas X.prog X.w X.K X.mg X.base F.c T k j)
    (c : Cls X.K (F.c.ca kc)) (hm : Meth X.K (F.c.ca kc) m (F.c.fa j))
    (hN : X.N[i]? = some x) (hv : Vis X.env.scope x) (hdb : (x == ("__debug__" : Str)) = false) (hcd : (x == ("__classdict__" : Str)) = false) (hline : (apos.endLine == pos.line) = true) :
    Snd X F W (mkR (.omt kc m j i .nil) fun ρ => (varO i ρ).bind fun x ρ0 => if insOk kc m i ρ0 then ((ev T' ps' .nil).ca (T.io j).tail ρ0).bind fun os ρ1 => callR T j (x :: os) ρ1 else .bad) (.Call (.Attribute (.Name x p) m apos) [] [] pos) := by
  obtain ⟨fd, prm, d, N, hF, hk, hb, h1, h2, h3, h4⟩ := fh.ex
  have ho : PE X (.Name x p) (tO F W (varO i)) := PE.weak (pe_var hN hv hdb hcd) tO_var
  refine snd_mk hK (PE.weak (pe_methX0 (E := WE W) ho c hm hF hgd hr hb (fun σ => passAt tk σ) (meth_eval rfl hline)) fun σ H Q ⟨G, ρ, fp, E, h⟩ => ?_) rfl (fun _ => rfl) fun _ _ => rfl
  refine tP.bind back_res E h fun o ρ1 G1 H1 fp1 x e ad E1 r1 h1' => ?_
  split at h1'
  · rename_i hok
    obtain ⟨a, dx, gs, rfl, q1, q2⟩ := insOk_at E1 e r1 hok
    refine ⟨a, dx, gs, rfl, q1, q2, ?_⟩
    cases e : (T.io j).tail with
    | nil =>
      rw [e] at h1'
      exact call_core h1 h2 h3 h4 E1 (H0 := H1) (fp0 := fp1) (OpdRs.cons (r1.adv (Same.refl _)) .nil) h1'
    | cons b bs =>
      rw [e] at h1'
      exact h1'.elim
  · exact h1'.elim
end
end Ev
end
section
set_option Elab.async false
set_option linter.all false
set_option maxRecDepth 100000
set_option maxHeartbeats 4000000
set_option autoImplicit false
namespace Ev
open PySem PySem.Spec PyProof.Rows L2

section
variable {F : Fm} {W : WXt} {G G' H H' : Hp} {σ : L2.St} {ρ : Rho} {fp : Fps}
/-- one slot more -/
theorem EnvOk.snoc (E : EnvOk F G H σ ρ fp) {x dx : Addr} {k : Nat} {o : HO} (hx : H x = none) (hd : H dx = none) (ne : dx ≠ x) :
    EnvOk F G (upd (upd H dx o) x (.ins (F.c.ca k) dx [])) (σ ++ [some (.ref x)]) (ρ ++ [some (.ins k [], 1)]) (fun j => if j = ρ.length then [x] else fp j) ∧
      Adv G H fp G (upd (upd H dx o) x (.ins (F.c.ca k) dx [])) (fun j => if j = ρ.length then [x] else fp j) := by
  have ot : ∀ {b : Addr} {u : HO}, H b = some u → upd (upd H dx o) x (.ins (F.c.ca k) dx []) b = some u := fun {b u} e => by
    rw [upd_ne (ne_of_none e hx), upd_ne (ne_of_none e hd)]; exact e
  have hfp : fp ρ.length = [] := E.no _ fun d l z => by rw [List.getElem?_eq_none (Nat.le_refl _)] at z; cases z
  have hg : G x = none := E.le.free hx
  refine ⟨⟨E.g0, fun b u e => ot (E.le _ _ e), fun b u e n => ot (E.kp _ _ e n), E.nw, fun j d l e => ?_, fun j e => ?_, fun j => ?_, fun i j a h1 h2 => ?_, fun j a h => ?_, fun m p a h1 h2 => ?_, by simp [E.len]⟩, Same.refl _, fun a u e n => ot e, fun a u e => .inl e, fun j a h => ?_⟩
  · by_cases hj : j = ρ.length
    · subst hj
      rw [List.getElem?_append_right (Nat.le_refl _)] at e
      simp at e
      obtain ⟨rfl, rfl⟩ := e
      refine ⟨.ref x, by rw [E.len, List.getElem?_append_right (Nat.le_refl _)]; simp, x, rfl, by rw [if_pos rfl], dx, [], upd_same, by simp only [RepFF]⟩
    · have hlt : j < ρ.length := by
        have := (List.getElem?_eq_some_iff.mp e).1
        simp at this
        omega
      rw [List.getElem?_append_left hlt] at e
      obtain ⟨v, h1, h2⟩ := E.sl j d l e
      refine ⟨v, by rw [List.getElem?_append_left (by rw [← E.len]; exact hlt)]; exact h1, ?_⟩
      show SlotR F.c G _ l d v (if j = ρ.length then [x] else fp j)
      rw [if_neg hj]
      refine h2.same (Same.refl _) fun a ha => ?_
      obtain ⟨u, hu⟩ := E.fpthere ha
      rw [hu]; exact ot hu
  · show (if j = ρ.length then [x] else fp j) = []
    by_cases hj : j = ρ.length
    · subst hj
      exact absurd (show (ρ ++ [some (D.ins k [], 1)])[ρ.length]? = some (some (D.ins k [], 1)) by rw [List.getElem?_append_right (Nat.le_refl _)]; simp) (e _ _)
    · rw [if_neg hj]
      refine E.no j fun d l z => e d l ?_
      rw [List.getElem?_append_left (List.getElem?_eq_some_iff.mp z).1]; exact z
  · show (if j = ρ.length then [x] else fp j).Nodup
    by_cases hj : j = ρ.length
    · rw [if_pos hj]; simp
    · rw [if_neg hj]; exact E.nd j
  · have h1 : a ∈ (if i = ρ.length then [x] else fp i) := h1
    have h2 : a ∈ (if j = ρ.length then [x] else fp j) := h2
    have fr : ∀ k', a = x → a ∉ fp k' := fun k' e z => by
      obtain ⟨u, hu⟩ := E.fpthere z
      rw [e, hx] at hu; cases hu
    by_cases hi : i = ρ.length
    · by_cases hj : j = ρ.length
      · rw [hi, hj]
      · rw [if_pos hi, List.mem_singleton] at h1
        rw [if_neg hj] at h2
        exact absurd h2 (fr j h1)
    · by_cases hj : j = ρ.length
      · rw [if_neg hi] at h1
        rw [if_pos hj, List.mem_singleton] at h2
        exact absurd h1 (fr i h2)
      · rw [if_neg hi] at h1
        rw [if_neg hj] at h2
        exact E.dj i j a h1 h2
  · have h : a ∈ (if j = ρ.length then [x] else fp j) := h
    by_cases hj : j = ρ.length
    · rw [if_pos hj, List.mem_singleton] at h
      subst h
      exact ⟨hg, (E.outNone hx).1⟩
    · rw [if_neg hj] at h
      exact E.ow j a h
  · have z := E.io m p a h1 h2
    rw [List.getElem?_append_left (List.getElem?_eq_some_iff.mp z).1]; exact z
  · have h : a ∈ (if j = ρ.length then [x] else fp j) := h
    by_cases hj : j = ρ.length
    · rw [if_pos hj, List.mem_singleton] at h
      subst h
      exact .inl hx
    · rw [if_neg hj] at h
      exact .inr ⟨j, h⟩
/-- back: the last slot is forgotten -/
theorem EnvOk.unsnoc {y : Option V} {ρ2 : Rho} {n : Nat} (hn : n = σ.length) (hps : ∀ p ∈ F.ps, p < n) (E : EnvOk F G H (σ ++ [y]) ρ2 fp) : EnvOk F G H σ (ρ2.take n) (fun j => if j < n then fp j else []) := by
  subst hn
  refine ⟨E.g0, E.le, E.kp, E.nw, fun j d l e => ?_, fun j e => ?_, fun j => ?_, fun i j a h1 h2 => ?_, fun j a h => ?_, fun m p a h1 h2 => ?_, ?_⟩
  · rw [List.getElem?_take] at e
    split at e
    · rename_i hj
      obtain ⟨v, h1, h2⟩ := E.sl j d l e
      rw [List.getElem?_append_left hj] at h1
      exact ⟨v, h1, by show SlotR F.c G H l d v (if j < σ.length then fp j else []); rw [if_pos hj]; exact h2⟩
    · cases e
  · show (if j < σ.length then fp j else []) = []
    split
    · rename_i hj
      refine E.no j fun d l z => e d l ?_
      rw [List.getElem?_take, if_pos hj]; exact z
    · rfl
  · show (if j < σ.length then fp j else []).Nodup
    split
    · exact E.nd j
    · exact List.nodup_nil
  · have h1 : a ∈ (if i < σ.length then fp i else []) := h1
    have h2 : a ∈ (if j < σ.length then fp j else []) := h2
    split at h1
    · split at h2
      · exact E.dj i j a h1 h2
      · cases h2
    · cases h1
  · have h : a ∈ (if j < σ.length then fp j else []) := h
    split at h
    · exact E.ow j a h
    · cases h
  · have z := E.io m p a h1 h2
    rw [List.getElem?_append_left (hps p (List.mem_of_getElem? h1))] at z
    exact z
  · rw [List.length_take, E.len, List.length_append]
    simp
end
section
variable {X : Cx} {F : Fm} {W : WXt}
variable {a b e1 e2 e3 : Expr} {A B C : EvR} {pos p : Pos} {ca cb cc : CE} {T : Tb} {k j : Nat}
theorem opds_v {σ : L2.St} {G H H0 : Hp} {fp fp0 : Fps} : ∀ {ds : List D} {vs : List V}, RepFs F.c G ds vs → OpdRs F σ H0 fp0 G H fp (ds.map Opd.v) vs
  | [], vs, h => by simp only [RepFs] at h; subst h; exact .nil
  | d :: ds, vs, h => by
    simp only [RepFs] at h
    obtain ⟨v, r, rfl, h1, h2⟩ := h
    exact OpdRs.cons h1 (opds_v h2)
theorem fps_lt {F : Fm} {σ : L2.St} {n : Nat} (hl : F.as.length = F.ps.length) {G H : Hp} {ρ : Rho} {fp : Fps} (E : EnvOk F G H σ ρ fp) : ∀ p ∈ F.ps, p < σ.length := fun p hp => by
  obtain ⟨m, hm, e⟩ := List.mem_iff_getElem.mp hp
  have h1 : F.ps[m]? = some p := by rw [List.getElem?_eq_getElem hm, e]
  have h2 : F.as[m]? = some F.as[m] := List.getElem?_eq_getElem (by omega)
  exact (List.getElem?_eq_some_iff.mp (E.io m p _ h1 h2)).1
theorem snd_mki {kc : Nat} {x : Str} {es : List Expr} {e : Expr} (hK : X.K = F.c.K) (hl : F.as.length = F.ps.length) (hgd : X.A.guards = some []) (hr : Room (k + 1) X.A) (fh : FnHas X.prog X.w X.K X.mg X.base F.c T k j) (M : Mk X.K (F.c.ca kc) (F.c.fa j)) (hg : Gl X x) (hm : X.mg x = some (.ref (F.c.ca kc))) (hdb : (x == ("__debug__" : Str)) = false)
    (hs : SndA X F W A (e :: es)) (he : starEach (e :: es) X.env = (false, eval e X.env) :: starEach es X.env) :
    Snd X F W (mkR (.mk kc j ca) fun ρ => (A.al ρ).bind fun ds ρ1 => mkO ρ1.length (callR T j (.s ρ1.length :: ds.map fun p => .v p.1) (ρ1 ++ [some (.ins kc [], 1)]))) (.Call (.Name x p) (e :: es) [] pos) := by
  obtain ⟨fd, prm, d, N, hF, hk, hb, h1, h2, h3, h4⟩ := fh.ex
  refine snd_mk hK (PE.weak (peg_make (E := fun _ _ _ => False) M hF hgd hr hg hm hb (fun _ _ _ _ _ _ _ h => by obtain ⟨_, _, _, _, _, _, _, _, _, _, _, _, z⟩ := h; exact z.elim) hs.al hdb he (pl_tail hs he pos)) fun σ H Q ⟨G, ρ, fp, E, h⟩ => ?_) rfl (fun _ => rfl) fun _ _ => rfl
  refine ⟨G, ρ, fp, E, ?_⟩
  cases e1 : A.al ρ with
  | exc x ρ1 => simp only [e1, Res.bind] at h; exact h
  | bad => simp only [e1, Res.bind] at h; exact h
  | ok ps ρ1 =>
    simp only [e1, Res.bind] at h
    intro G1 H1 fp1 vs ad E1 r1 x dx hx hdx hne
    obtain ⟨G2, E2, r2, s, nw⟩ := E1.frzRs r1
    have ad2 : Adv G H fp G2 H1 fp1 := ⟨ad.gg.trans s, ad.kp, fun b o z => by
      rcases nw b o z with z | z
      · exact ad.nw b o z
      · exact .inr z, ad.ff⟩
    obtain ⟨E3, ad3⟩ := E2.snoc (k := kc) (o := .own x) hx hdx hne
    have ad23 := ad2.trans ad3
    rw [List.append_nil]
    have ro : OpdRs F (σ ++ [some (.ref x)]) H1 fp1 G2 (upd (upd H1 dx (.own x)) x (.ins (F.c.ca kc) dx [])) (fun j => if j = ρ1.length then [x] else fp1 j) (.s ρ1.length :: ps.map fun p => .v p.1) (V.ref x :: vs) := by
      refine OpdRs.cons ?_ ?_
      · show (σ ++ [some (V.ref x)])[ρ1.length]? = some (some (V.ref x))
        rw [E2.len, List.getElem?_append_right (Nat.le_refl _)]; simp
      · have := opds_v (F := F) (σ := σ ++ [some (V.ref x)]) (H := upd (upd H1 dx (.own x)) x (.ins (F.c.ca kc) dx [])) (H0 := H1) (fp := fun j => if j = ρ1.length then [x] else fp1 j) (fp0 := fp1) r2
        rw [List.map_map] at this
        exact this
    have hcall : ∀ cr, callR T j (.s ρ1.length :: ps.map fun p => .v p.1) (ρ1 ++ [some (.ins kc [], 1)]) = cr → OutP F (fun _ _ _ _ => False) (ResR F) (σ ++ [some (.ref x)]) (fun v H2 => v = .non ∧ Q (.ref x) H2) G2 (upd (upd H1 dx (.own x)) x (.ins (F.c.ca kc) dx [])) (fun j => if j = ρ1.length then [x] else fp1 j) cr := by
      intro cr ec
      rw [ec] at h
      match cr, h with
      | .ok (.non, 0) ρ2, h =>
        simp only [mkO] at h
        split at h
        · rename_i dd q
          intro G' H' fp' v ad4 E4 r4
          have hv : v = .non := by
            obtain ⟨_, r4, _⟩ := r4
            simpa only [RepF] using r4.2
          refine ⟨hv, ?_⟩
          have hps : ∀ p ∈ F.ps, p < ρ1.length := by rw [E2.len]; exact fps_lt (n := 0) hl E2
          have E5 := E4.unsnoc (n := ρ1.length) E2.len hps
          obtain ⟨v', hv', a', rfl, hf, ht⟩ := E4.sl ρ1.length dd 1 q
          have hxx : (σ ++ [some (V.ref x)])[ρ1.length]? = some (some (V.ref x)) := by
            rw [E2.len, List.getElem?_append_right (Nat.le_refl _)]; simp
          rw [hxx] at hv'
          cases hv'
          have hmem : x ∈ fp' ρ1.length := by rw [hf]; exact List.mem_singleton.mpr rfl
          refine h G' H' _ (.ref x) ((ad2.trans (ad3.trans ad4)).trans ⟨Same.refl _, fun _ _ e _ => e, fun _ _ e => .inl e, fun i b z => ?_⟩) E5 ⟨[x], ⟨x, rfl, rfl, ht⟩, by simp, fun b hb => ?_⟩
          · have z : b ∈ (if i < ρ1.length then fp' i else []) := z
            split at z
            · exact .inr ⟨i, z⟩
            · cases z
          · rw [List.mem_singleton] at hb
            subst hb
            refine ⟨(E4.ow _ _ hmem).1, (E4.ow _ _ hmem).2, fun i z => ?_, ad2.new (.inl hx)⟩
            have z : b ∈ (if i < ρ1.length then fp' i else []) := z
            split at z
            · rename_i hi
              have := E4.dj i ρ1.length b z hmem
              omega
            · cases z
        · exact h.elim
      | .exc x ρ2, h => exact h.elim
      | .bad, h => exact h.elim
      | .ok (.bl _, _) _, h => exact h.elim
      | .ok (.int _, _) _, h => exact h.elim
      | .ok (.str _, _) _, h => exact h.elim
      | .ok (.tup _, _) _, h => exact h.elim
      | .ok (.lst _, _) _, h => exact h.elim
      | .ok (.dic _, _) _, h => exact h.elim
      | .ok (.fn _, _) _, h => exact h.elim
      | .ok (.ins _ _, _) _, h => exact h.elim
      | .ok (.scr _, _) _, h => exact h.elim
      | .ok (.non, n + 1) _, h => exact h.elim
    exact call_core (W := fun _ _ _ _ => False) h1 h2 h3 h4 E3 ro (hcall _ rfl)
end
end Ev
end
section
set_option Elab.async false
set_option linter.all false
set_option maxRecDepth 100000
set_option maxHeartbeats 4000000
set_option autoImplicit false
namespace Ev
open PySem PySem.Spec PyProof.Rows L2

/-! ### targets -/
mutual
def ctNames : CT → List Nat
  | .nm i => [i]
  | .tp ts => ctNames ts
  | .nil => []
  | .cons t ts => ctNames t ++ ctNames ts
end
theorem wipe_set (σ : L2.St) (i : Nat) (x : Option V) : ∀ vs : List Nat, (wipe (σ.set i x) vs).set i none = (wipe σ vs).set i none
  | [] => by simp [wipe, List.set_set]
  | v :: vs => by
    show ((wipe (σ.set i x) vs).set v none).set i none = ((wipe σ vs).set v none).set i none
    by_cases h : v = i
    · subst h; rw [wipe_set σ v x vs]
    · rw [List.set_comm _ _ h, wipe_set σ i x vs, List.set_comm _ _ (Ne.symm h)]
theorem wipe_in {σ : L2.St} {i : Nat} {x : Option V} : ∀ {vs : List Nat}, i ∈ vs → wipe (σ.set i x) vs = wipe σ vs
  | v :: vs, h => by
    show (wipe (σ.set i x) vs).set v none = (wipe σ vs).set v none
    by_cases e : i = v
    · subst e; exact wipe_set σ i x vs
    · rw [wipe_in (by simpa [e] using h)]
section
variable {F : Fm} {W : WXt} {G G' H H' : Hp} {σ : L2.St} {ρ : Rho} {fp : Fps}
/-- a frozen value into slot i -/
theorem EnvOk.put0 (E : EnvOk F G H σ ρ fp) {i : Nat} {d : D} {v : V} (hi : i < ρ.length) (hp : i ∉ F.ps) (r : RepF F.c G d v) :
    EnvOk F G H (σ.set i (some v)) (ρ.set i (some (d, 0))) (fun j => if j = i then [] else fp j) ∧ Adv G H fp G H (fun j => if j = i then [] else fp j) :=
  ⟨E.put (q := []) (by rw [← E.len]; exact hi) (.inl hp) ⟨rfl, r⟩ List.nodup_nil (fun _ z => nomatch z), Same.refl _, fun _ _ e _ => e, fun _ _ e => .inl e, fun j a z => by
    have z : a ∈ (if j = i then [] else fp j) := z
    split at z
    · cases z
    · exact .inr ⟨j, z⟩⟩
end
abbrev GK (F : Fm) (names : List Nat) (G H : Hp) (fp : Fps) (σ : L2.St) (Q : L2.St → Hp → Prop) (ρ' : Rho) : Prop := ∀ σ' fp', EnvOk F G H σ' ρ' fp' → Adv G H fp G H fp' → (∀ vs : List Nat, (∀ i ∈ names, i ∈ vs) → wipe σ' vs = wipe σ vs) → Q σ' H
def tG (F : Fm) (t : CT) : TG := fun v σ H Q => ∃ G ρ fp d ρ', EnvOk F G H σ ρ fp ∧ RepF F.c G d v ∧ bindT F.ps t d ρ = some ρ' ∧ GK F (ctNames t) G H fp σ Q ρ'
def tGs (F : Fm) (t : CT) : TGs := fun vs σ H Q => ∃ G ρ fp ds ρ', EnvOk F G H σ ρ fp ∧ RepFs F.c G ds vs ∧ bindTs F.ps t ds ρ = some ρ' ∧ GK F (ctNames t) G H fp σ Q ρ'
structure SndT (X : Cx) (F : Fm) (t : CT) (e : Expr) : Prop where
  g : PG X e (tG F t)
  as : ∀ es env, assignEach (e :: es) env = (false, assign e env) :: assignEach es env
def ctLen : CT → Nat
  | .cons _ ts => ctLen ts + 1
  | _ => 0
structure SndTs (X : Cx) (F : Fm) (t : CT) (es : List Expr) : Prop where
  g : PGs X es (tGs F t)
  len : (assignEach es X.env).length = ctLen t
  st : (assignEach es X.env).findIdx? (·.1) = none
theorem PG.weak {X : Cx} {e : Expr} {t t' : TG} (h : PG X e t) (w : ∀ v σ H Q, t' v σ H Q → t v σ H Q) : PG X e t' := ⟨fun pins s σ H v u Q I r q => h.run pins s σ H v u Q I r (w _ _ _ _ q)⟩
theorem PGs.weak {X : Cx} {e : List Expr} {t t' : TGs} (h : PGs X e t) (w : ∀ v σ H Q, t' v σ H Q → t v σ H Q) : PGs X e t' := ⟨fun pins s σ H v u Q I r q => h.run pins s σ H v u Q I r (w _ _ _ _ q)⟩
theorem PG.or {X : Cx} {e : Expr} {t t' : TG} (h : PG X e t) (h' : PG X e t') : PG X e (fun v σ H Q => t v σ H Q ∨ t' v σ H Q) := ⟨fun pins s σ H v u Q I r q => q.elim (fun q => h.run pins s σ H v u Q I r q) fun q => h'.run pins s σ H v u Q I r q⟩
theorem bindTs_len {ps : List Nat} : ∀ {t : CT} {ds : List D} {ρ ρ' : Rho}, bindTs ps t ds ρ = some ρ' → ds.length = ctLen t
  | .nil, [], ρ, ρ', _ => rfl
  | .cons t ts, d :: ds, ρ, ρ', h => by
    simp only [bindTs] at h
    split at h
    · rw [List.length_cons, bindTs_len h]; rfl
    · cases h
  | .nil, _ :: _, _, _, h => by cases h
  | .cons _ _, [], _, _, h => by cases h
  | .nm _, _, _, _, h => by cases h
  | .tp _, _, _, _, h => by cases h
section
variable {X : Cx} {F : Fm} {pos : Pos}
theorem sndt_nm {i : Nat} {x : Str} (hN : X.N.Nodup) (hi : X.N[i]? = some x) (hx : Loc X.env.scope x) (hf : X.fn x = true ∨ X.env.scope.names.lookup x = some .local) : SndT X F (.nm i) (.Name x pos) := by
  refine ⟨PG.weak (pg_name hN hi hx hf) fun v σ H Q ⟨G, ρ, fp, d, ρ', E, r, h, k⟩ => ?_, fun _ _ => rfl⟩
  simp only [bindT] at h
  split at h
  · rename_i hz
    cases h
    obtain ⟨E2, ad⟩ := E.put0 hz.1 (by simpa using hz.2) r
    exact k _ _ E2 ad fun vs hv => wipe_in (hv i (by simp [ctNames]))
  · cases h
theorem sndts_nil : SndTs X F .nil [] := by
  refine ⟨PGs.weak pgs_nil fun vs σ H Q ⟨G, ρ, fp, ds, ρ', E, r, h, k⟩ => ?_, rfl, rfl⟩
  cases ds with
  | nil =>
    simp only [bindTs, Option.some.injEq] at h
    subst h
    simp only [RepFs] at r
    exact ⟨r, k σ fp E Adv.refl fun _ _ => rfl⟩
  | cons d ds => cases h
theorem sndts_cons {t ts : CT} {e : Expr} {es : List Expr} (h1 : SndT X F t e) (h2 : SndTs X F ts es) : SndTs X F (.cons t ts) (e :: es) := by
  refine ⟨PGs.weak (pgs_cons h1.g h2.g (by rw [h1.as]; rfl)) fun vs σ H Q ⟨G, ρ, fp, ds, ρ', E, r, h, k⟩ => ?_, by rw [h1.as, List.length_cons, h2.len]; rfl, ?_⟩
  · cases ds with
    | nil => cases h
    | cons d ds =>
      simp only [bindTs] at h
      split at h
      · rename_i ρ1 e1
        simp only [RepFs] at r
        obtain ⟨v, vr, rfl, r1, r2⟩ := r
        refine ⟨v, vr, rfl, G, ρ, fp, d, ρ1, E, r1, e1, fun σ1 fp1 E1 ad1 w1 => ?_⟩
        refine ⟨G, ρ1, fp1, ds, ρ', E1, r2, h, fun σ2 fp2 E2 ad2 w2 => k σ2 fp2 E2 (ad1.trans ad2) fun vs hv => ?_⟩
        rw [w2 vs fun i hi => hv i (by simp [ctNames, hi]), w1 vs fun i hi => hv i (by simp [ctNames, hi])]
      · cases h
  · rw [h1.as, List.findIdx?_cons]
    show (if false = true then _ else _) = _
    rw [if_neg (by simp), h2.st]; rfl
theorem sndt_tp {ts : CT} {es : List Expr} {k : Nat} (hK : X.K = F.c.K) (hc : X.calm = true) (h : SndTs X F ts es) : SndT X F (.tp ts) (.Tuple es k pos) := by
  refine ⟨PG.weak (PG.or (pg_tup hc h.g h.len h.st) (pg_lst hc h.g h.len h.st)) fun v σ H Q ⟨G, ρ, fp, d, ρ', E, r, e, k⟩ => ?_, fun _ _ => rfl⟩
  cases d with
  | tup ds =>
    simp only [bindT] at e
    simp only [RepF] at r
    obtain ⟨a, xs, rfl, h1, h2⟩ := r
    exact .inl ⟨a, xs, rfl, by rw [hK]; exact SqT.same E.le h1, by rw [h2.length, bindTs_len e], G, ρ, fp, ds, ρ', E, h2, e, k⟩
  | lst ds =>
    simp only [bindT] at e
    simp only [RepF] at r
    obtain ⟨a, xs, rfl, h1, h2⟩ := r
    exact .inr ⟨a, xs, rfl, by rw [hK]; exact SqL.of (E.le _ _ h1), by rw [h2.length, bindTs_len e], G, ρ, fp, ds, ρ', E, h2, e, k⟩
  | _ => cases e
end
end Ev
end
section
set_option Elab.async false
set_option linter.all false
set_option maxRecDepth 100000
set_option maxHeartbeats 4000000
set_option autoImplicit false
namespace Ev
open PySem PySem.Spec PyProof.Rows L2

/-- J walks frozen data -/
def Wk (c : Ct) (Gh : Hp) (J : It) (ds : List D) : Prop := Walk J ds.length (fun H => Same Gh H) (fun i H x H' => ∀ G, Same Gh G → Same G H → ∃ G' d, ds[i]? = some d ∧ Ext G H G' H' ∧ RepF c G' d x)
def ItR (F : Fm) : RT (List D) It := fun _ _ G _ _ ds J => Wk F.c G J ds
abbrev tIt (F : Fm) (W : WXt) (m : Rho → Res (List D)) : TI := fun σ H R => tP F W (ItR F) m σ H R
section
variable {F : Fm} {σ : L2.St}
theorem back_it : Back (ItR F) := ⟨fun {G0 H0 G1 H1 G2 H2 f0 f1 f2 a v} _ h => h⟩
end
theorem PI.weak {X : Cx} {tg e : Expr} {t t' : TI} (h : PI X tg e t) (w : ∀ σ H R, t' σ H R → t σ H R) : PI X tg e t' := ⟨fun pins s σ H R I q => h.run pins s σ H R I (w _ _ _ q)⟩
def iAny (K : PySem.W.Frag) (te : TE) : TI := fun σ H R => te σ H fun x H1 => (∃ a xs, x = .ref a ∧ SqL K H1 a xs ∧ R (Itl K a) H1) ∨ (∃ a xs, x = .ref a ∧ SqT K H1 a xs ∧ R (Itt K a) H1) ∨ ∃ z, x = .str z ∧ R (Its z) H1
theorem pi_any {X : Cx} {tg e : Expr} {te : TE} (he : PE X e te) : PI X tg e (iAny X.K te) := by
  constructor
  intro pins s σ H R I h
  refine thn (he.run pins s σ H _ I h) fun v s1 hv => ?_
  obtain ⟨y, H1, I1, r1, q1⟩ := hv
  rcases q1 with ⟨a, xs, ex, hq, q⟩ | ⟨a, xs, ex, hq, q⟩ | ⟨z, ex, q⟩
  · subst ex
    cases r1
    obtain ⟨its, rv, p, hz⟩ := I1.list hq
    exact wpAny_pyIter_list p.isList (pi_one (tk := s1.toks) I1 _ (turn_list a s1.heap.objs.size) ⟨_, Heap.get?_push_size _ rfl, rfl, rfl⟩ q)
  · subst ex
    cases r1
    obtain ⟨its, rv, p, hz⟩ := I1.tuple hq
    exact wpAny_pyIter_tuple (show s1.heap.IsTuple a its.toArray from p) (pi_one (tk := s1.toks) I1 _ (turn_tuple a s1.heap.objs.size) ⟨_, Heap.get?_push_size _ rfl, rfl, rfl⟩ q)
  · subst ex
    obtain ⟨t, rfl⟩ := r1
    cases ha : z.cps.all (· < 128) with
    | true => exact wpAny_pyIter_ascii ha (pi_one (tk := s1.toks) I1 _ (turn_str s1.heap.objs.size z t "str_ascii_iterator" (.inl rfl)) ⟨_, Heap.get?_push_size _ rfl, rfl, rfl⟩ q)
    | false => exact wpAny_pyIter_wide ha (pi_one (tk := s1.toks) I1 _ (turn_str s1.heap.objs.size z t "str_iterator" (.inr rfl)) ⟨_, Heap.get?_push_size _ rfl, rfl, rfl⟩ q)
theorem wk_at {c : Ct} {Gh : Hp} {J : It} {ds : List D} {vs : List V} (hr : RepFs c Gh ds vs) (w : Walk J vs.length (fun H => Same Gh H) (YAt vs)) : Wk c Gh J ds := by
  unfold Wk
  rw [hr.length] at w
  refine w.mono (fun _ h => h) fun i H x H' hi hs y G s1 s2 => ?_
  obtain ⟨rfl, hx⟩ := y
  obtain ⟨d, hd, r⟩ := hr.get' hx
  exact ⟨G, d, hd, Ext.refl s2, RepF.same s1 _ _ r⟩
theorem wk_list {c : Ct} {Gh : Hp} {a : Addr} {ds : List D} {vs : List V} (h : Gh a = some (.lst vs)) (hr : RepFs c Gh ds vs) : Wk c Gh (Itl c.K a) ds :=
  wk_at hr (walk_list.mono (fun H s => SqL.of (s _ _ h)) fun _ _ _ _ _ _ y => y)
theorem wk_tup {c : Ct} {Gh : Hp} {a : Addr} {ds : List D} {vs : List V} (h : SqT c.K Gh a vs) (hr : RepFs c Gh ds vs) : Wk c Gh (Itt c.K a) ds :=
  wk_at hr (walk_tup.mono (fun H s => SqT.same s h) fun _ _ _ _ _ _ y => y)
theorem wk_str {c : Ct} {Gh : Hp} {z : Str} : Wk c Gh (Its z) (z.cps.toList.map sgn1) := by
  unfold Wk
  rw [List.length_map, Array.length_toList]
  refine walk_str.mono (fun _ _ => trivial) fun i H x H' hi hs y G s1 s2 => ?_
  obtain ⟨rfl, c', hc, rfl⟩ := y
  refine ⟨G, sgn1 c', ?_, Ext.refl s2, by simp only [sgn1, RepF]⟩
  rw [List.getElem?_map, Array.getElem?_toList, hc]; rfl
theorem wk_range {c : Ct} {Gh : Hp} {lo : Int} {n : Nat} : Wk c Gh (Itr lo n) (rangeD lo n) := by
  unfold Wk
  rw [show (rangeD lo n).length = n by simp [rangeD]]
  refine walk_range.mono (fun _ _ => trivial) fun i H x H' hi hs y G s1 s2 => ?_
  obtain ⟨rfl, rfl⟩ := y
  refine ⟨G, .int (lo + i), ?_, Ext.refl s2, by simp only [RepF]⟩
  unfold rangeD
  rw [List.getElem?_map, List.getElem?_range hi]; rfl
/-- new pairs -/
theorem wk_pair {c : Ct} {Gh : Hp} {J : It} {ds : List D} {xs ys : Nat → Option V} (w : Walk J ds.length (fun H => Same Gh H) (YPair xs ys))
    (hp : ∀ (i : Nat) x y, i < ds.length → xs i = some x → ys i = some y → ∃ a b, ds[i]? = some (.tup [a, b]) ∧ RepF c Gh a x ∧ RepF c Gh b y) : Wk c Gh J ds := by
  unfold Wk
  refine w.mono (fun _ h => h) fun i H x H' hi hs y G s1 s2 => ?_
  obtain ⟨T, x', y', rfl, hT, rfl, h1, h2⟩ := y
  obtain ⟨a, b, hd, r1, r2⟩ := hp i x' y' hi h1 h2
  refine ⟨upd G T (.tup [x', y']), .tup [a, b], hd, Ext.laid s2 hT, ?_⟩
  simp only [RepF]
  have e := (Ext.laid (o := HO.tup [x', y']) s2 hT).gg
  refine ⟨T, [x', y'], rfl, SqT.of upd_same, ?_⟩
  simp only [RepFs]
  exact ⟨x', [y'], rfl, RepF.same e _ _ (RepF.same s1 _ _ r1), y', [], rfl, RepF.same e _ _ (RepF.same s1 _ _ r2), rfl⟩
theorem enumD_get : ∀ (k : Int) (ds : List D) (i : Nat), (enumD k ds)[i]? = ds[i]?.map fun d => .tup [.int (k + i), d]
  | k, [], i => by simp [enumD]
  | k, d :: ds, 0 => by simp [enumD]
  | k, d :: ds, i + 1 => by
    simp only [enumD, List.getElem?_cons_succ, enumD_get (k + 1) ds i]
    congr 1
    funext d'
    have : k + 1 + (i : Int) = k + ((i + 1 : Nat) : Int) := by omega
    rw [this]
theorem enumD_len : ∀ (k : Int) (ds : List D), (enumD k ds).length = ds.length
  | k, [] => rfl
  | k, d :: ds => by simp only [enumD, List.length_cons, enumD_len (k + 1) ds]
theorem zipD_get : ∀ (as bs : List D) (i : Nat) (a b : D), as[i]? = some a → bs[i]? = some b → (zipD as bs)[i]? = some (.tup [a, b])
  | a :: as, b :: bs, 0, a', b', h1, h2 => by simp at h1 h2; subst h1 h2; rfl
  | a :: as, b :: bs, i + 1, a', b', h1, h2 => by simp only [zipD, List.getElem?_cons_succ]; exact zipD_get as bs i a' b' (by simpa using h1) (by simpa using h2)
  | [], _, i, _, _, h1, _ => by simp at h1
  | _ :: _, [], i, _, _, _, h2 => by simp at h2
theorem zipD_len : ∀ (as bs : List D), (zipD as bs).length = min as.length bs.length
  | a :: as, b :: bs => by simp only [zipD, List.length_cons, zipD_len as bs]; omega
  | [], bs => by simp [zipD]
  | _ :: _, [] => by simp [zipD]

/-! ### enumerate over a text -/
def IteS (z : Str) : It := ⟨fun i _ => i < z.cps.size, fun i H v H' => ∃ T c, v = .ref T ∧ H T = none ∧ H' = upd H T (.tup [.int (i : Nat), .str ⟨#[c]⟩]) ∧ z.cps[i]? = some c, fun i _ => i = z.cps.size⟩
theorem turn_enumS {P : Program} {w : World} {K : PySem.W.Frag} {elts : List Expr} {kk : Nat} {tpos : Pos} (z : Str) (t : Tok) (e it : Addr) :
    Turn P w K (.Tuple elts kk tpos) (IteS z) [e, it] e (fun i h => (∃ old, IsEnum h e it ((i : Nat) : Int) old) ∧ h.IsStrIter it (strIterType z) z t i ∧ e ≠ it) where
  mem := by simp
  obj := by
    intro i h st b hb
    obtain ⟨⟨old, he⟩, ⟨o, ho, hc, hd⟩, _⟩ := st
    rcases (show b = e ∨ b = it by simpa using hb) with q | q
    · subst q; exact ⟨_, he, fun v q => nomatch q⟩
    · subst q; exact ⟨o, ho, fun v q => by rw [hd] at q; cases q⟩
  keep := by
    intro i h h' st k
    obtain ⟨⟨old, he⟩, ⟨o, ho, r⟩, hne⟩ := st
    exact ⟨⟨old, k e (by simp) _ he⟩, ⟨o, k it (by simp) o ho, r⟩, hne⟩
  item := by
    intro X hP hw hK hc i pins s σ H E I hf st hg
    subst hP hw hK
    obtain ⟨⟨old, he⟩, hit, hne⟩ := st
    have hg : i < z.cps.size := hg
    have hh : (X.A.in1).handled = none := I.ok.hd hc
    have Dr : Draws X.prog X.w X.A.in1 it [it] z.cps.size (fun i v => ∃ c u, z.cps[i]? = some c ∧ v = .str ⟨#[c]⟩ u) (fun i h => h.IsStrIter it (strIterType z) z t i) := by
      unfold strIterType
      split
      · exact Draws.strAscii hh it z t
      · exact Draws.strWide hh it z t
    have hel : e < s.heap.objs.size := Heap.lt_size he
    have hil : it < s.heap.objs.size := by obtain ⟨_, q, _⟩ := hit; exact Heap.lt_size q
    refine wpAny_pyNext_enum_itemD Dr he hit hg hne (by simpa using hne) fun x h' tk hPx ho hit' hT hsz hk => ?_
    obtain ⟨c, u, hcx, rfl⟩ := hPx
    refine ⟨_, rfl, wpAny_letOwnedTupleGo_enum (s := { s with heap := h', toks := tk + 1 }) ho fun h'' he' sb => ?_⟩
    have hT2 : h''.get? s.heap.objs.size = some { cls := .type "tuple", data := .seq #[.int i tk, .str ⟨#[c]⟩ u] } := (sb.2 _ (Nat.ne_of_gt hel)).trans hT
    have fresh : ObjOk X.prog X.w (upd H s.heap.objs.size (.tup [.int (i : Nat), .str ⟨#[c]⟩])) h'' s.heap.objs.size (.tup [.int (i : Nat), .str ⟨#[c]⟩]) :=
      ⟨by show 2 ≤ sizeLine; decide, [.int i tk, .str ⟨#[c]⟩ u], .cons ⟨_, rfl⟩ (.cons ⟨_, rfl⟩ .nil), ⟨_, hT2, rfl, _, rfl⟩⟩
    have I1 : Inv X pins σ (upd H s.heap.objs.size (.tup [.int (i : Nat), .str ⟨#[c]⟩])) { s with heap := h'', toks := tk + 1 } :=
      I.turnedNew (ch := [e, it]) (fun b ob hb q => (sb.2 b (fun z => hb (by simp [z]))).trans (hk b ob (fun z => hb (by simp [z])) (fun z => hb (by simp [z])) q)) hf (Nat.le_refl _) fresh
    refine ⟨.ref s.heap.objs.size, _, I1, rfl, ⟨_, c, rfl, I.hok.fresh (Nat.le_refl _), rfl, hcx⟩, ⟨⟨.str ⟨#[c]⟩ u, ?_⟩, ?_, hne⟩, fun b hb => ?_⟩
    · have e1 : ((i + 1 : Nat) : Int) = (i : Int) + 1 := by omega
      rw [e1]; exact he'
    · obtain ⟨o, ho', r⟩ := hit'
      exact ⟨o, (sb.2 it (Ne.symm hne)).trans ho', r⟩
    · have hb' : b < s.heap.objs.size := by
        rcases (show b = e ∨ b = it by simpa using hb) with q | q
        · rw [q]; exact hel
        · rw [q]; exact hil
      rw [upd_ne (Nat.ne_of_lt hb')]
      exact (hf b hb).1
  done := by
    intro X hP hw hK hc i pins s σ H E I hf st hg
    subst hP hw hK
    obtain ⟨⟨old, he⟩, hit, hne⟩ := st
    have hg : i = z.cps.size := hg
    subst hg
    have hh : (X.A.in1).handled = none := I.ok.hd hc
    have Dr : Draws X.prog X.w X.A.in1 it [it] z.cps.size (fun i v => ∃ c u, z.cps[i]? = some c ∧ v = .str ⟨#[c]⟩ u) (fun i h => h.IsStrIter it (strIterType z) z t i) := by
      unfold strIterType
      split
      · exact Draws.strAscii hh it z t
      · exact Draws.strWide hh it z t
    obtain ⟨f0, f1, f2, f3, f4, f5⟩ := hf it (by simp)
    exact wpAny_pyNext_enum_endD Dr he hit fun h' eb => ⟨rfl, I.turned (t' := s.toks) (fun b o hb q => eb b o hb q) f0 f1 f3 f4 f5⟩
  self := fun A i s Q E st h => wpAny_pyIter_enum st.1.choose_spec h
def iEnS (K : PySem.W.Frag) (ta : TA) : TI := fun σ H R => ta σ H fun vs H1 => (∃ a xs, vs = [.ref a] ∧ SqL K H1 a xs ∧ R (Ite K a) H1) ∨ ∃ z, vs = [.str z] ∧ R (IteS z) H1
theorem pi_enS {X : Cx} {e : Expr} {ta : TA} {p pos tpos : Pos} {elts : List Expr} {kk : Nat} (hg : Gl X "enumerate") (hm : X.mg "enumerate" = none) (ha : PA X [e] ta) (hs : starEach [e] X.env = [(false, eval e X.env)]) :
    PI X (.Tuple elts kk tpos) (.Call (.Name "enumerate" p) [e] [] pos) (iEnS X.K ta) := by
  constructor
  intro pins s σ H R I h
  refine Call_ (ld_blt I hg hm boot_enumerate (PyProof.Rows.callWith_type1 (thn (ha.run pos pins s σ H _ I h) fun us s1 hus => ?_) hs rfl))
  obtain ⟨vs, H1, I1, r1, q1⟩ := hus
  have two : ∀ b, b ∈ [s1.heap.objs.size + 1, s1.heap.objs.size] → FpOk X pins H1 b := fun b hb => by
    have hle : s1.heap.objs.size ≤ b := by
      rcases (show b = s1.heap.objs.size + 1 ∨ b = s1.heap.objs.size by simpa using hb) with q | q
      · rw [q]; exact Nat.le_add_right _ _
      · rw [q]; exact Nat.le_refl _
    exact I1.fpOk hle (I1.hok.fresh hle)
  rcases q1 with ⟨a, xs, ex, hq, q⟩ | ⟨z, ex, q⟩
  · subst ex
    cases r1 with
    | cons r rr =>
      cases rr
      cases r
      obtain ⟨its, rv, p', hz⟩ := I1.list hq
      refine call_enumerate_list p'.isList fun h' he hit hsz hk => wpAny_pyIter_enum he ?_
      exact ⟨s1.heap.objs.size + 1, [s1.heap.objs.size + 1, s1.heap.objs.size], _, _, H1, rfl, I1.kept (t' := s1.toks) hk, turn_enum a (s1.heap.objs.size + 1) s1.heap.objs.size, ⟨⟨.none, he⟩, hit, Nat.succ_ne_self _⟩, two, q⟩
  · subst ex
    cases r1 with
    | cons r rr =>
      cases rr
      obtain ⟨t, rfl⟩ := r
      refine call_enumerate_str fun h' he hit hsz hk => wpAny_pyIter_enum he ?_
      exact ⟨s1.heap.objs.size + 1, [s1.heap.objs.size + 1, s1.heap.objs.size], _, _, H1, rfl, I1.kept (t' := s1.toks) hk, turn_enumS z t (s1.heap.objs.size + 1) s1.heap.objs.size, ⟨⟨.none, he⟩, hit, Nat.succ_ne_self _⟩, two, q⟩

/-! ### the evaluator's items -/
structure SndI (X : Cx) (F : Fm) (W : WXt) (r : EvR) (tg e : Expr) : Prop where
  it : PI X tg e (tIt F W r.it)
  fold : ∀ x, foldedSetIterable e X.env x = pure x
section
variable {X : Cx} {F : Fm} {W : WXt} {a b tg : Expr} {A B C : EvR} {pos p : Pos} {ca cb cc : CE}
def noSet : Expr → Bool
  | .Set _ _ _ => false
  | _ => true
theorem fold_of {e : Expr} (h : noSet e = true) : ∀ x, foldedSetIterable e X.env x = pure x := by
  intro x
  cases e <;> first | rfl | (cases h)
/-- a value's own items -/
theorem itm_w {f : Rho → Res (D × Nat)} (hK : X.K = F.c.K) : ∀ σ H R, tIt F W (fun ρ => (f ρ).bind fun p ρ1 => lift (seqItems p.1) ρ1) σ H R → iAny X.K (tV F W f) σ H R := by
  intro σ H R ⟨G, ρ, fp, E, h⟩
  refine tP.bind back_it E h fun p ρ1 G1 H1 fp1 x e ad E1 r1 h1 => ?_
  obtain ⟨d, l⟩ := p
  obtain ⟨G2, E2, r2, s, nw⟩ := E1.frzR r1
  have ad2 : Adv G1 H1 fp1 G2 H1 fp1 → Adv G1 H1 fp1 G2 H1 fp1 := id
  have h1 : OutP F W (ItR F) σ R G H fp (lift (seqItems d) ρ1) := by
    have h' := h
    simp only [e, Res.bind] at h'
    exact h'
  have adn : Adv G H fp G2 H1 fp1 := ⟨ad.gg.trans s, ad.kp, fun b o z => by
    rcases nw b o z with z | z
    · exact ad.nw b o z
    · exact .inr z, ad.ff⟩
  have r2 : RepF F.c G2 d x := r2
  rw [hK]
  cases d with
  | lst ds =>
    simp only [RepF] at r2
    obtain ⟨a, vs, rfl, q1, q2⟩ := r2
    exact .inl ⟨a, vs, rfl, SqL.of (E2.le _ _ q1), h1 G2 H1 fp1 _ adn E2 (wk_list q1 q2)⟩
  | tup ds =>
    simp only [RepF] at r2
    obtain ⟨a, vs, rfl, q1, q2⟩ := r2
    exact .inr (.inl ⟨a, vs, rfl, SqT.same E2.le q1, h1 G2 H1 fp1 _ adn E2 (wk_tup q1 q2)⟩)
  | str z =>
    simp only [RepF] at r2
    subst r2
    exact .inr (.inr ⟨z, rfl, h1 G2 H1 fp1 _ adn E2 wk_str⟩)
  | _ => exact h1.elim
theorem sndi_mk (hK : X.K = F.c.K) {ce : CE} {f : Rho → Res (D × Nat)} (h : PE X a (tV F W f)) (hn : noSet a = true) : SndI X F W (mkR ce f) tg a :=
  ⟨PI.weak (pi_any h) (itm_w hK), fold_of hn⟩
theorem intOf {H0 G H : Hp} {fp0 fp : Fps} {d : D} {l : Nat} {v : V} {k : Int} (h : ResR F H0 fp0 G H fp (d, l) v) (e : d = .int k) : v = .int k := by
  subst e
  obtain ⟨q, h, _⟩ := h
  match l, h with
  | 0, h => simpa only [RepF] using h.2
  | 1, ⟨a, _, _, h⟩ => exact h.elim
  | 2, ⟨a, bs, _, _, h⟩ => exact h.elim
theorem sndi_rg1 (ha : Snd X F W A a) (hg : Gl X "range") (hm : X.mg "range" = none) : SndI X F W { mkR (.rg1 ca) noF with it := fun ρ => (A.f ρ).bind fun p ρ1 => match p.1 with
      | .int j => if -(2 ^ 62) ≤ j ∧ j < 2 ^ 62 then .ok (rangeD 0 j.toNat) ρ1 else .bad
      | _ => .bad } tg (.Call (.Name "range" p) [a] [] pos) := by
  refine ⟨PI.weak (pi_range1 hg hm (pa_cons ha.f pa_nil (ha.st _ _)) (ha.st _ _)) fun σ H R ⟨G, ρ, fp, E, h⟩ => ?_, fun _ => rfl⟩
  refine tP.bind back_it E h fun p ρ1 G1 H1 fp1 x e ad E1 r1 h1 => ?_
  obtain ⟨d, l⟩ := p
  cases d with
  | int j =>
    simp only at h1
    split at h1
    · rename_i hz
      exact ⟨j, by rw [intOf r1 rfl], hz.1, hz.2, h1 G1 H1 fp1 _ Adv.refl E1 wk_range⟩
    · exact h1.elim
  | _ => exact h1.elim
theorem sndi_rg2 (ha : Snd X F W A a) (hb : Snd X F W B b) (hg : Gl X "range") (hm : X.mg "range" = none) : SndI X F W { mkR (.rg2 ca cb) noF with it := fun ρ => (A.f ρ).bind fun p ρ1 => (B.f ρ1).bind fun q ρ2 => match p.1, q.1 with
      | .int i, .int j => if -(2 ^ 62) ≤ i ∧ i < 2 ^ 62 ∧ -(2 ^ 62) ≤ j ∧ j < 2 ^ 62 then .ok (rangeD i (j - i).toNat) ρ2 else .bad
      | _, _ => .bad } tg (.Call (.Name "range" p) [a, b] [] pos) := by
  refine ⟨PI.weak (pi_range2 hg hm (pa_cons ha.f (pa_cons hb.f pa_nil (hb.st _ _)) (ha.st _ _)) (by rw [ha.st, hb.st]; rfl) (hb.st _ _)) fun σ H R ⟨G, ρ, fp, E, h⟩ => ?_, fun _ => rfl⟩
  refine tP.bind back_it E h fun p ρ1 G1 H1 fp1 x e ad E1 r1 h1 => ?_
  refine tP.bind back_it E1 h1 fun q ρ2 G2 H2 fp2 y e2 ad2 E2 r2 h2 => ?_
  obtain ⟨d, l⟩ := p
  obtain ⟨d2, l2⟩ := q
  cases d with
  | int i =>
    cases d2 with
    | int j =>
      simp only at h2
      split at h2
      · rename_i hz
        exact ⟨i, j, by rw [intOf r1 rfl, intOf r2 rfl], hz, h2 G2 H2 fp2 _ Adv.refl E2 wk_range⟩
      · exact h2.elim
    | _ => exact h2.elim
  | _ => cases d2 <;> exact h2.elim
/-- a value, frozen behind its evaluation -/
theorem frzQ {σ : L2.St} {G H G1 H1 : Hp} {fp fp1 : Fps} {ρ1 : Rho} {p : D × Nat} {x : V} (ad : Adv G H fp G1 H1 fp1) (E1 : EnvOk F G1 H1 σ ρ1 fp1) (r1 : ResR F H fp G1 H1 fp1 p x) : ∃ G2, EnvOk F G2 H1 σ ρ1 fp1 ∧ RepF F.c G2 p.1 x ∧ Adv G H fp G2 H1 fp1 := by
  obtain ⟨G2, E2, r2, s, nw⟩ := E1.frzR r1
  exact ⟨G2, E2, r2, ad.gg.trans s, ad.kp, fun b o z => by
    rcases nw b o z with z | z
    · exact ad.nw b o z
    · exact .inr z, ad.ff⟩
theorem sndi_enm {ts : List Expr} {kk : Nat} {tp : Pos} (hK : X.K = F.c.K) (ha : Snd X F W A a) (hg : Gl X "enumerate") (hm : X.mg "enumerate" = none) : SndI X F W { mkR (.enm ca) noF with it := fun ρ => (A.f ρ).bind fun p ρ1 => match p.1 with
      | .lst ds => .ok (enumD 0 ds) ρ1
      | .str x => .ok (enumD 0 (x.cps.toList.map sgn1)) ρ1
      | _ => .bad } (.Tuple ts kk tp) (.Call (.Name "enumerate" p) [a] [] pos) := by
  refine ⟨PI.weak (pi_enS hg hm (pa_cons ha.f pa_nil (ha.st _ _)) (ha.st _ _)) fun σ H R ⟨G, ρ, fp, E, h⟩ => ?_, fun _ => rfl⟩
  refine ⟨G, ρ, fp, E, ?_⟩
  cases e1 : A.f ρ with
  | exc x ρ1 => simp only [e1, Res.bind] at h; exact h
  | bad => simp only [e1, Res.bind] at h; exact h
  | ok p ρ1 =>
    simp only [e1, Res.bind] at h
    intro G1 H1 fp1 x ad E1 r1
    obtain ⟨G2, E2, r2, ad2⟩ := frzQ ad E1 r1
    obtain ⟨d, l⟩ := p
    rw [hK]
    cases d with
    | lst ds =>
      simp only [RepF] at r2
      obtain ⟨a, vs, rfl, q1, q2⟩ := r2
      refine .inl ⟨a, vs, rfl, SqL.of (E2.le _ _ q1), h G2 H1 fp1 _ ad2 E2 (wk_pair (xs := fun i => some (.int (i : Nat))) (ys := fun i => vs[i]?) ?_ fun i x y hi h1 h2 => ?_)⟩
      · rw [enumD_len, ← q2.length]
        exact walk_enum.mono (fun H s => SqL.of (s _ _ q1)) fun _ _ _ _ _ _ y => y
      · obtain ⟨d, hd, r⟩ := q2.get' h2
        refine ⟨.int i, d, by rw [enumD_get, hd]; simp, ?_, r⟩
        cases h1
        simp only [RepF]
    | str z =>
      simp only [RepF] at r2
      subst r2
      refine .inr ⟨z, rfl, h G2 H1 fp1 _ ad2 E2 (wk_pair (xs := fun i => some (.int (i : Nat))) (ys := fun i => z.cps[i]?.map fun c => .str ⟨#[c]⟩) ?_ fun i x y hi h1 h2 => ?_)⟩
      · rw [enumD_len, List.length_map, Array.length_toList]
        refine ⟨fun i H hi _ => hi, fun H _ => rfl, fun i H x H' hi _ y => ?_⟩
        obtain ⟨T, c, e1, e2, e3, e4⟩ := y
        exact ⟨T, .int (i : Nat), .str ⟨#[c]⟩, e1, e2, e3, rfl, by simp only [e4, Option.map_some]⟩
      · cases hc : z.cps[i]? with
        | none => rw [hc] at h2; cases h2
        | some c =>
          rw [hc] at h2
          cases h2
          cases h1
          refine ⟨.int i, sgn1 c, ?_, by simp only [RepF], by simp only [sgn1, RepF]⟩
          rw [enumD_get, List.getElem?_map, Array.getElem?_toList, hc]; simp
    | _ => exact h.elim
theorem sndi_zip {ts : List Expr} {kk : Nat} {tp : Pos} (hK : X.K = F.c.K) (ha : Snd X F W A a) (hb : Snd X F W B b) (hg : Gl X "zip") (hm : X.mg "zip" = none) : SndI X F W { mkR (.zip ca cb) noF with it := fun ρ => (A.f ρ).bind fun p ρ1 => (B.f ρ1).bind fun q ρ2 => match p.1, q.1 with
      | .lst ds, .lst es => .ok (zipD ds es) ρ2
      | .tup ds, .tup es => .ok (zipD ds es) ρ2
      | _, _ => .bad } (.Tuple ts kk tp) (.Call (.Name "zip" p) [a, b] [] pos) := by
  refine ⟨PI.weak (RZ.pi_zipA hg hm (pa_cons (frz_of ha) (pa_cons (frz_of hb) pa_nil (hb.st _ _)) (ha.st _ _)) (ha.st _ _) (by rw [hb.st]; rfl)) fun σ H R ⟨G, ρ, fp, E, h⟩ => ?_, fun _ => rfl⟩
  have h : OutP F W (ItR F) σ R G H fp ((frzV (A.f ρ)).bind fun p ρ1 => (frzV (B.f ρ1)).bind fun q ρ2 => match p, q with
      | .v (.lst ds), .v (.lst es) => .ok (zipD ds es) ρ2
      | .v (.tup ds), .v (.tup es) => .ok (zipD ds es) ρ2
      | _, _ => .bad) := by
    have h' := h
    simp only at h'
    revert h'
    cases e1 : A.f ρ with
    | exc x ρ1 => exact id
    | bad => exact id
    | ok p ρ1 =>
      simp only [frzV, Res.bind]
      cases e2 : B.f ρ1 with
      | exc x ρ1 => exact id
      | bad => exact id
      | ok q ρ2 =>
        obtain ⟨d, l⟩ := p
        obtain ⟨d2, l2⟩ := q
        cases d <;> cases d2 <;> exact id
  refine tP.bind back_it E h fun p ρ1 G1 H1 fp1 x e ad E1 r1 h1 => ?_
  refine tP.bind back_it E1 h1 fun q ρ2 G2 H2 fp2 y e2 ad2 E2 r2 h2 => ?_
  replace r1 : OpdR F σ H1 fp1 G2 H2 fp2 p x := r1.adv ad2.gg
  rw [hK]
  have both : ∀ {J : It} {xs ys : List V} {ds es : List D}, RepFs F.c G2 ds xs → RepFs F.c G2 es ys → (∀ n, n = min xs.length ys.length → Walk J n (fun H => Same G2 H) (YPair (fun i => xs[i]?) (fun i => ys[i]?))) → Wk F.c G2 J (zipD ds es) := by
    intro J xs ys ds es q1 q2 w
    refine wk_pair (w _ (by rw [zipD_len, q1.length, q2.length])) fun i x y hi h1 h2 => ?_
    obtain ⟨d, hd, r⟩ := q1.get' h1
    obtain ⟨d', hd', r'⟩ := q2.get' h2
    exact ⟨d, d', zipD_get ds es i d d' hd hd', r, r'⟩
  split at h2
  · rename_i ds es
    have r1 : RepF F.c G2 (.lst ds) x := r1
    have r2 : RepF F.c G2 (.lst es) y := r2
    simp only [RepF] at r1 r2
    obtain ⟨a, xs, rfl, q1, q2⟩ := r1
    obtain ⟨b, ys, rfl, q3, q4⟩ := r2
    refine ⟨a, b, xs, ys, rfl, .inl ⟨SqL.of (E2.le _ _ q1), SqL.of (E2.le _ _ q3), h2 G2 H2 fp2 _ Adv.refl E2 (both q2 q4 fun n hn => (walk_zip hn).mono (fun H s => ⟨SqL.of (s _ _ q1), SqL.of (s _ _ q3)⟩) fun _ _ _ _ _ _ y => y)⟩⟩
  · rename_i ds es
    have r1 : RepF F.c G2 (.tup ds) x := r1
    have r2 : RepF F.c G2 (.tup es) y := r2
    simp only [RepF] at r1 r2
    obtain ⟨a, xs, rfl, q1, q2⟩ := r1
    obtain ⟨b, ys, rfl, q3, q4⟩ := r2
    refine ⟨a, b, xs, ys, rfl, .inr ⟨SqT.same E2.le q1, SqT.same E2.le q3, h2 G2 H2 fp2 _ Adv.refl E2 (both q2 q4 fun n hn => ?_)⟩⟩
    subst hn
    refine ⟨fun i H hi s => ⟨xs, ys, xs[i]'(by omega), ys[i]'(by omega), SqT.same s q1, SqT.same s q3, by simp [show i < xs.length by omega], by simp [show i < ys.length by omega]⟩, fun H s => ⟨xs, ys, SqT.same s q1, SqT.same s q3, by omega⟩, fun i H v H' hi s y => ?_⟩
    obtain ⟨T, x, z, e1, e2, e3, e4, e5⟩ := y
    exact ⟨T, x, z, e1, e2, e3, e4 xs (SqT.same s q1), e5 ys (SqT.same s q3)⟩
  · exact h2.elim
end
end Ev
end
section
set_option Elab.async false
set_option linter.all false
set_option maxRecDepth 100000
set_option maxHeartbeats 4000000
set_option autoImplicit false
namespace Ev
open PySem PySem.Spec PyProof.Rows L2

theorem wipe_get (σ : L2.St) (i : Nat) : ∀ vs : List Nat, (wipe σ vs)[i]? = if i ∈ vs then σ[i]?.map (fun _ => none) else σ[i]?
  | [] => by simp [wipe]
  | v :: vs => by
    show ((wipe σ vs).set v none)[i]? = _
    by_cases h : v = i
    · subst h
      rw [if_pos List.mem_cons_self]
      by_cases hl : v < σ.length
      · rw [List.getElem?_set_self (by rw [wipe_length]; exact hl), List.getElem?_eq_getElem hl]; rfl
      · rw [List.getElem?_eq_none (by rw [List.length_set, wipe_length]; omega), List.getElem?_eq_none (by omega)]; rfl
    · rw [List.getElem?_set_ne h, wipe_get σ i vs]
      simp [Ne.symm h]
theorem wipe_wipe (σ : L2.St) (vs : List Nat) : wipe (wipe σ vs) vs = wipe σ vs := by
  apply List.ext_getElem?
  intro i
  rw [wipe_get, wipe_get]
  by_cases h : i ∈ vs
  · rw [if_pos h, if_pos h, Option.map_map]; rfl
  · rw [if_neg h, if_neg h]
theorem wipeR_length (ρ : Rho) : ∀ vs : List Nat, (wipeR ρ vs).length = ρ.length
  | [] => rfl
  | v :: vs => by unfold wipeR; rw [List.length_set, wipeR_length ρ vs]
theorem wipeR_get (σ : Rho) (i : Nat) : ∀ vs : List Nat, (wipeR σ vs)[i]? = if i ∈ vs then σ[i]?.map (fun _ => none) else σ[i]?
  | [] => by simp [wipeR]
  | v :: vs => by
    show ((wipeR σ vs).set v none)[i]? = _
    by_cases h : v = i
    · subst h
      rw [if_pos List.mem_cons_self]
      by_cases hl : v < σ.length
      · rw [List.getElem?_set_self (by rw [wipeR_length]; exact hl), List.getElem?_eq_getElem hl]; rfl
      · rw [List.getElem?_eq_none (by rw [List.length_set, wipeR_length]; omega), List.getElem?_eq_none (by omega)]; rfl
    · rw [List.getElem?_set_ne h, wipeR_get σ i vs]
      simp [Ne.symm h]
theorem wipeR_some {ρ : Rho} {vs : List Nat} {i : Nat} {x : D × Nat} (h : (wipeR ρ vs)[i]? = some (some x)) : i ∉ vs ∧ ρ[i]? = some (some x) := by
  rw [wipeR_get] at h
  by_cases hi : i ∈ vs
  · rw [if_pos hi] at h
    cases q : ρ[i]? with
    | none => rw [q] at h; cases h
    | some s => rw [q] at h; cases h
  · rw [if_neg hi] at h; exact ⟨hi, h⟩
theorem backR_length (ρ0 ρ : Rho) : ∀ vs : List Nat, (backR ρ0 ρ vs).length = ρ.length
  | [] => rfl
  | v :: vs => by unfold backR; rw [List.length_set, backR_length ρ0 ρ vs]
def frOf (s : Option Slt) : Slt := match s with
  | some (some (d, 0)) => some (d, 0)
  | _ => none
theorem backR_get (ρ0 ρ : Rho) (i : Nat) : ∀ vs : List Nat, (backR ρ0 ρ vs)[i]? = if i ∈ vs then ρ[i]?.map (fun _ => frOf ρ0[i]?) else ρ[i]?
  | [] => by simp [backR]
  | v :: vs => by
    show ((backR ρ0 ρ vs).set v (frOf ρ0[v]?))[i]? = _
    by_cases h : v = i
    · subst h
      rw [if_pos List.mem_cons_self]
      by_cases hl : v < ρ.length
      · rw [List.getElem?_set_self (by rw [backR_length]; exact hl), List.getElem?_eq_getElem hl]; rfl
      · rw [List.getElem?_eq_none (by rw [List.length_set, backR_length]; omega), List.getElem?_eq_none (show ρ.length ≤ v by omega)]; rfl
    · rw [List.getElem?_set_ne h, backR_get ρ0 ρ i vs]
      simp [Ne.symm h]
section
variable {F : Fm} {W : WXt} {G G' G1 H H' H1 : Hp} {σ : L2.St} {ρ ρ1 : Rho} {fp fp1 : Fps}
abbrev wF (vs : List Nat) (fp : Fps) : Fps := fun j => if j ∈ vs then [] else fp j
theorem EnvOk.wipe (E : EnvOk F G H σ ρ fp) {vs : List Nat} (hv : ∀ p ∈ F.ps, p ∉ vs) : EnvOk F G H (L2.wipe σ vs) (wipeR ρ vs) (wF vs fp) where
  g0 := E.g0
  le := E.le
  kp := E.kp
  nw := E.nw
  sl := fun i d l e => by
    obtain ⟨hi, e⟩ := wipeR_some e
    obtain ⟨v, h1, h2⟩ := E.sl i d l e
    exact ⟨v, by rw [wipe_get, if_neg hi]; exact h1, by show SlotR F.c G H l d v (if i ∈ vs then [] else fp i); rw [if_neg hi]; exact h2⟩
  no := fun i e => by
    show (if i ∈ vs then [] else fp i) = []
    by_cases hi : i ∈ vs
    · rw [if_pos hi]
    · rw [if_neg hi]
      exact E.no i fun d l z => e d l (by rw [wipeR_get, if_neg hi]; exact z)
  nd := fun i => by
    show (if i ∈ vs then [] else fp i).Nodup
    by_cases hi : i ∈ vs
    · rw [if_pos hi]; exact List.nodup_nil
    · rw [if_neg hi]; exact E.nd i
  dj := fun i j a h1 h2 => by
    have h1 : a ∈ (if i ∈ vs then [] else fp i) := h1
    have h2 : a ∈ (if j ∈ vs then [] else fp j) := h2
    split at h1
    · cases h1
    · split at h2
      · cases h2
      · exact E.dj i j a h1 h2
  ow := fun i a h => by
    have h : a ∈ (if i ∈ vs then [] else fp i) := h
    split at h
    · cases h
    · exact E.ow i a h
  io := fun k p a h1 h2 => by
    rw [wipe_get, if_neg (hv p (List.mem_of_getElem? h1))]
    exact E.io k p a h1 h2
  len := by rw [wipe_length, wipeR_length]; exact E.len
theorem Adv.wipe (ad : Adv G1 H1 fp1 G H fp) (vs : List Nat) : Adv G1 H1 fp1 G H (wF vs fp) := ⟨ad.gg, ad.kp, ad.nw, fun i a h => by
  have h : a ∈ (if i ∈ vs then [] else fp i) := h
  split at h
  · cases h
  · exact ad.ff i a h⟩
/-- a side object, in no slot and not frozen, is rewritten -/
theorem EnvOk.side (E : EnvOk F G H σ ρ fp) {a : Addr} {o : HO} (hg : G a = none) (hf : ∀ j, a ∉ fp j) (hb : F.B a = none ∨ a ∈ F.as) : EnvOk F G (upd H a o) σ ρ fp :=
  ⟨E.g0, fun b u e => by rw [upd_ne fun q => by subst q; rw [hg] at e; cases e]; exact E.le _ _ e, fun b u e n => by
    rw [upd_ne fun q => by
      subst q
      rcases hb with z | z
      · rw [z] at e; cases e
      · exact n z]
    exact E.kp _ _ e n, E.nw, fun i d l e => by
    obtain ⟨v, h1, h2⟩ := E.sl i d l e
    exact ⟨v, h1, h2.same (Same.refl _) fun b hq => upd_ne fun q => by subst q; exact hf i hq⟩, E.no, E.nd, E.dj, E.ow, E.io, E.len⟩
theorem Adv.side (ad : Adv G1 H1 fp1 G H fp) {a : Addr} {o : HO} (h : H1 a = none) : Adv G1 H1 fp1 G (upd H a o) fp := ⟨ad.gg, fun b u e n => by rw [upd_ne fun q => by subst q; rw [h] at e; cases e]; exact ad.kp b u e n, ad.nw, ad.ff⟩
theorem EnvOk.back (E1 : EnvOk F G1 H1 σ ρ1 fp1) {vs : List Nat} (E : EnvOk F G H (L2.wipe σ vs) (wipeR ρ vs) fp) (s : Same G1 G) : EnvOk F G H σ (backR ρ1 ρ vs) fp where
  g0 := E.g0
  le := E.le
  kp := E.kp
  nw := E.nw
  sl := fun i d l e => by
    rw [backR_get] at e
    by_cases hi : i ∈ vs
    · rw [if_pos hi] at e
      have hfp : fp i = [] := E.no i fun d l z => (wipeR_some z).1 hi
      rw [hfp]
      cases q : ρ1[i]? with
      | none => rw [q] at e; cases q2 : ρ[i]? <;> rw [q2] at e <;> cases e
      | some s1 =>
        rw [q] at e
        cases s1 with
        | none => cases q2 : ρ[i]? <;> rw [q2] at e <;> cases e
        | some p =>
          obtain ⟨d', l'⟩ := p
          cases l' with
          | zero =>
            cases q2 : ρ[i]? with
            | none => rw [q2] at e; cases e
            | some y =>
              rw [q2] at e
              cases e
              obtain ⟨v, h1, _, h2⟩ := E1.sl i _ 0 q
              exact ⟨v, h1, rfl, RepF.same s _ _ h2⟩
          | succ n => cases q2 : ρ[i]? <;> rw [q2] at e <;> cases e
    · rw [if_neg hi] at e
      obtain ⟨v, h1, h2⟩ := E.sl i d l (by rw [wipeR_get, if_neg hi]; exact e)
      rw [wipe_get, if_neg hi] at h1
      exact ⟨v, h1, h2⟩
  no := fun i e => by
    by_cases hi : i ∈ vs
    · exact E.no i fun d l z => (wipeR_some z).1 hi
    · refine E.no i fun d l z => e d l ?_
      rw [backR_get, if_neg hi]; exact (wipeR_some z).2
  nd := E.nd
  dj := E.dj
  ow := E.ow
  io := fun k p a h1 h2 => (wipe_some (E.io k p a h1 h2)).1
  len := by
    have := E.len
    rw [wipe_length, wipeR_length] at this
    rw [backR_length]; exact this
end
section
variable {X : Cx} {F : Fm} {W : WXt} {elt tg iter : Expr} {pos : Pos}
abbrev W0 : WXt := fun _ _ _ _ => False
theorem snd_lc {ifs : List Expr} {scope : Scope} {own : List (Str × Nat)} {I : EvR} {t : CT} {tt : Rho → Res Bool} {f : Rho → Res (D × Nat)} {ce : CE} (hce : notVar ce = true) (hK : X.K = F.c.K) (hc : X.calm = true) (hN : X.N.Nodup) (hi : SndI X F W I tg iter) (ok : BlkOk X.N X.env.scope scope own)
    (hps : ∀ p ∈ F.ps, p ∉ own.map (·.2)) (hnm : ∀ i ∈ ctNames t, i ∈ own.map (·.2))
    (hg : ∀ (s : Shared) (H : Hp) (C : Addr) (cl : List (Str × Addr)) (fp : List Addr), PG (X.blk s H scope (compEnvC scope cl C X.env) fp) tg (tG F t)) (ht : ∀ (s : Shared) (H : Hp) (C : Addr) (cl : List (Str × Addr)) (fp : List Addr), PTs (X.blk s H scope (compEnvC scope cl C X.env) fp) ifs (tT F W0 tt))
    (he : ∀ (s : Shared) (H : Hp) (C : Addr) (cl : List (Str × Addr)) (fp : List Addr), PE (X.blk s H scope (compEnvC scope cl C X.env) fp) elt (tV F W0 f)) :
    PE X (.ListComp elt [⟨tg, iter, ifs, 0⟩] scope pos) (tV F W fun ρ => (I.it ρ).bind fun ds ρ1 => (noexc (compLoop (own.map (·.2)) (bindT F.ps t) tt f ds ρ1 [])).bind fun xs ρ2 => .ok (.lst xs, 1) (backR ρ1 ρ2 (own.map (·.2)))) ∧
    ∀ {y : Str} {py spos : Pos} {i : Nat}, X.N[i]? = some y → X.env.scope.names.lookup y = some .local → swapsWith (.ListComp elt [⟨tg, iter, ifs, 0⟩] scope pos) (some (.Name y py)) spos.line X.env = pure true →
      PS X (.Assign [.Name y py] (.ListComp elt [⟨tg, iter, ifs, 0⟩] scope pos) spos) (tAsg (tV F W fun ρ => (I.it ρ).bind fun ds ρ1 => (noexc (compLoop (own.map (·.2)) (bindT F.ps t) tt f ds ρ1 [])).bind fun xs ρ2 => .ok (.lst xs, 1) (backR ρ1 ρ2 (own.map (·.2)))) (gName i)) := by
  have w : ∀ σ H Q, tV F W (fun ρ => (I.it ρ).bind fun ds ρ1 => (noexc (compLoop (own.map (·.2)) (bindT F.ps t) tt f ds ρ1 [])).bind fun xs ρ2 => .ok (.lst xs, 1) (backR ρ1 ρ2 (own.map (·.2)))) σ H Q →
      tLc (tIt F W I.it) (tG F t) (tT F W0 tt) (tV F W0 f) (own.map (·.2)) σ H Q := by
    intro σ H Q ⟨G, ρ, fp, E, h⟩
    generalize hvs : own.map (·.2) = vs at *
    refine tP.bind back_res E h fun ds ρ1 G1 H1 fp1 J e ad E1 wk h1 => ?_
    intro Dd hD
    have wk : Wk F.c G1 J ds := wk
    -- the rest of the loop
    obtain ⟨xs, ρe, hrest, hout⟩ : ∃ xs ρe, compLoop vs (bindT F.ps t) tt f ds ρ1 [] = .ok xs ρe ∧ OutP F W (ResR F) σ Q G1 H1 fp1 (.ok (.lst xs, 1) (backR ρ1 ρe vs)) := by
      cases q : compLoop vs (bindT F.ps t) tt f ds ρ1 [] with
      | ok xs ρe => rw [q] at h1; exact ⟨xs, ρe, rfl, h1⟩
      | exc x ρe => rw [q] at h1; exact h1.elim
      | bad => rw [q] at h1; exact h1.elim
    have hB := (E1.outNone hD).1
    have hg1 : G1 Dd = none := E1.le.free hD
    refine lc_it (G := fun H => Same G1 H) wk (fun i H => ∃ G ρ fp acc vals, EnvOk F G H (wipe σ vs) (wipeR ρ vs) fp ∧ Adv G1 H1 fp1 G H fp ∧ H Dd = some (.lst vals) ∧ RepFs F.c G acc vals ∧ G Dd = none ∧ (∀ j, Dd ∉ fp j) ∧
      compLoop vs (bindT F.ps t) tt f (ds.drop i) ρ acc = .ok xs ρe) ?_ ?_ ?_ ?_
    · refine ⟨G1, ρ1, wF vs fp1, [], [], (E1.wipe hps).side hg1 (fun j z => ?_) hB, (Adv.refl.wipe vs).side hD, upd_same, by simp only [RepFs], hg1, fun j z => ?_, by rw [List.drop_zero]; exact hrest⟩
      all_goals
        have z : Dd ∈ (if j ∈ vs then [] else fp1 j) := z
        split at z
        · cases z
        · exact (E1.outNone hD).2 j z
    · rintro i H - ⟨G, ρ, fp, acc, vals, E2, ad2, -⟩
      exact ad2.gg.trans E2.le
    · rintro i x H2 H3 hi ⟨G, ρ, fp, acc, vals, E2, ad2, hD2, hr2, hg2, hf2, hrun⟩ hy
      obtain ⟨G3, d, hd, ex, rd⟩ := hy G ad2.gg E2.le
      have hdrop : ds.drop i = d :: ds.drop (i + 1) := by
        have hlt : i < ds.length := hi
        rw [List.getElem?_eq_getElem hlt] at hd
        cases hd
        exact List.drop_eq_getElem_cons hlt
      rw [hdrop] at hrun
      simp only [compLoop] at hrun
      cases hb : bindT F.ps t d (wipeR ρ vs) with
      | none => rw [hb] at hrun; cases hrun
      | some ρ4 =>
        rw [hb] at hrun
        obtain ⟨bb, ρ5, et, hrun⟩ := bind_ok hrun
        have E3 := E2.ext ex
        have hD3 : H3 Dd = some (.lst vals) := ex.hh _ _ hD2
        have hg3 : G3 Dd = none := by
          cases q : G3 Dd with
          | none => rfl
          | some o =>
            rcases ex.nw _ _ q with z | z
            · rw [hg2] at z; cases z
            · rw [hD2] at z; cases z
        refine ⟨G3, wipeR ρ vs, fp, d, ρ4, E3, rd, hb, fun σ4 fp4 E4 ad4 hw => ?_⟩
        have hws : wipe σ4 vs = wipe σ vs := by rw [hw vs hnm, wipe_wipe]
        refine ⟨hws, G3, ρ4, fp4, E4, ?_⟩
        rw [et]
        intro G5 H5 fp5 b5 ad5 E5 r5
        cases (show b5 = bb from r5)
        have ad25 : Adv G1 H1 fp1 G5 H5 fp5 := (ad2.trans ex.adv).trans (ad4.trans ad5)
        have nf4 : ∀ j, Dd ∉ fp4 j := fun j z => by
          rcases ad4.ff j _ z with q | ⟨j', q⟩
          · rw [hD3] at q; cases q
          · exact hf2 j' q
        have keepD : ∀ {Ga Ha : Hp} {fa : Fps} {Gb Hb : Hp} {fb : Fps}, Adv Ga Ha fa Gb Hb fb → Ha Dd = some (.lst vals) → Ga Dd = none → (∀ j, Dd ∉ fa j) → Hb Dd = some (.lst vals) ∧ Gb Dd = none ∧ ∀ j, Dd ∉ fb j := by
          intro Ga Ha fa Gb Hb fb a h1 h2 h3
          refine ⟨a.kp _ _ h1 h3, ?_, fun j z => ?_⟩
          · cases q : Gb Dd with
            | none => rfl
            | some o =>
              rcases a.nw _ _ q with z | z | ⟨j, z⟩
              · rw [h2] at z; cases z
              · rw [h1] at z; cases z
              · exact absurd z (h3 j)
          · rcases a.ff j _ z with q | ⟨j', q⟩
            · rw [h1] at q; cases q
            · exact h3 j' q
        obtain ⟨k1, k2, k3⟩ := keepD ad5 hD3 hg3 nf4
        cases bb with
        | false =>
          rw [if_neg (by simp)] at hrun ⊢
          have E6 := E5.wipe hps
          rw [hws] at E6
          refine ⟨G5, ρ5, wF vs fp5, acc, vals, E6, ad25.wipe vs, k1, RepFs.same (ex.gg.trans (ad4.gg.trans ad5.gg)) _ _ hr2, k2, fun j z => ?_, hrun⟩
          have z : Dd ∈ (if j ∈ vs then [] else fp5 j) := z
          split at z
          · cases z
          · exact k3 j z
        | true =>
          rw [if_pos rfl] at hrun ⊢
          obtain ⟨p, ρ6, ef, hrun⟩ := bind_ok hrun
          refine ⟨G5, ρ5, fp5, E5, ?_⟩
          rw [ef]
          intro G6 H6 fp6 y ad6 E6 r6
          split at hrun
          · rename_i hlen
            obtain ⟨l1, l2, l3⟩ := keepD ad6 k1 k2 k3
            obtain ⟨G7, E7, r7, s7, nw7⟩ := E6.frzR r6
            have hg7 : G7 Dd = none := by
              cases q : G7 Dd with
              | none => rfl
              | some o =>
                rcases nw7 _ _ q with z | z | ⟨j, z⟩
                · rw [l2] at z; cases z
                · rw [k1] at z; cases z
                · exact absurd z (k3 j)
            have ra : RepFs F.c G7 acc vals := RepFs.same (ex.gg.trans (ad4.gg.trans (ad5.gg.trans (ad6.gg.trans s7)))) _ _ hr2
            refine ⟨vals, l1, by rw [ra.length, LIM_eq]; exact hlen, ?_⟩
            have E8 := (E7.wipe hps).side (o := .lst (vals ++ [y])) hg7 (fun j z => by
              have z : Dd ∈ (if j ∈ vs then [] else fp6 j) := z
              split at z
              · cases z
              · exact l3 j z) hB
            rw [hws] at E8
            have ad7 : Adv G1 H1 fp1 G7 H6 fp6 := by
              have a := ad25.trans ad6
              refine ⟨a.gg.trans s7, a.kp, fun b o z => ?_, a.ff⟩
              rcases nw7 b o z with z | z
              · exact a.nw b o z
              · exact .inr (ad25.new z)
            refine ⟨G7, ρ6, wF vs fp6, acc ++ [p.1], vals ++ [y], E8, (ad7.wipe vs).side hD, upd_same, ra.append (.one r7), hg7, fun j z => ?_, hrun⟩
            have z : Dd ∈ (if j ∈ vs then [] else fp6 j) := z
            split at z
            · cases z
            · exact l3 j z
          · cases hrun
    · rintro H2 ⟨G, ρ, fp, acc, vals, E2, ad2, hD2, hr2, hg2, hf2, hrun⟩
      rw [List.drop_length] at hrun
      simp only [compLoop, Res.ok.injEq] at hrun
      obtain ⟨rfl, rfl⟩ := hrun
      refine hout G H2 fp (.ref Dd) ad2 (EnvOk.back E1 E2 ad2.gg) ⟨[Dd], ⟨Dd, rfl, rfl, vals, hD2, hr2⟩, by simp, fun b hb => ?_⟩
      rw [List.mem_singleton] at hb
      subst hb
      exact ⟨hg2, hB, hf2, .inl hD⟩
  refine ⟨PE.weak (pe_lc hc hN hi.it ok hg ht he hi.fold) w, fun {y py spos i} h1 h2 h3 => ?_⟩
  refine PS.weak (ps_setLc hc hN h1 h2 h3 hi.it ok hg ht he hi.fold) fun D σ H h => ?_
  exact w σ H _ h
end
end Ev
end
section
set_option Elab.async false
set_option linter.all false
set_option maxRecDepth 100000
set_option maxHeartbeats 4000000
set_option autoImplicit false
namespace Ev
open PySem PySem.Spec PyProof.Rows L2

def OutS (F : Fm) (W : WXt) (Dn : Ends) (G H : Hp) (fp : Fps) : SR → Prop
  | .nx ρ' => ∀ G' H' σ' fp', Adv G H fp G' H' fp' → EnvOk F G' H' σ' ρ' fp' → Dn.nx σ' H'
  | .bk ρ' => ∀ G' H' σ' fp', Adv G H fp G' H' fp' → EnvOk F G' H' σ' ρ' fp' → Dn.bk σ' H'
  | .ct ρ' => ∀ G' H' σ' fp', Adv G H fp G' H' fp' → EnvOk F G' H' σ' ρ' fp' → Dn.ct σ' H'
  | .rt d l ρ' => ∀ G' H' σ' fp' v, Adv G H fp G' H' fp' → EnvOk F G' H' σ' ρ' fp' → ResR F H fp G' H' fp' (d, l) v → Dn.rt v H'
  | .exc x ρ' => ∀ G' H' σ' fp' cls dd, Adv G H fp G' H' fp' → EnvOk F G' H' σ' ρ' fp' → XR F.c x cls dd → W cls dd σ' H'
  | .bad => False
def tSt (F : Fm) (W : WXt) (m : Rho → SR) : TS := fun Dn σ H => ∃ G ρ fp, EnvOk F G H σ ρ fp ∧ OutS F W Dn G H fp (m ρ)
section
variable {F : Fm} {W : WXt} {Dn Dn' : Ends} {G G' H H' : Hp} {σ : L2.St} {ρ : Rho} {fp fp' : Fps}
theorem OutS.mono (s : Adv G H fp G' H' fp') : ∀ {r : SR}, OutS F W Dn G H fp r → OutS F W Dn G' H' fp' r
  | .nx _, h => fun G1 H1 σ1 f1 a => h G1 H1 σ1 f1 (s.trans a)
  | .bk _, h => fun G1 H1 σ1 f1 a => h G1 H1 σ1 f1 (s.trans a)
  | .ct _, h => fun G1 H1 σ1 f1 a => h G1 H1 σ1 f1 (s.trans a)
  | .rt _ _ _, h => fun G1 H1 σ1 f1 v a E r => h G1 H1 σ1 f1 v (s.trans a) E (back_res.back s r)
  | .exc _ _, h => fun G1 H1 σ1 f1 cls dd a => h G1 H1 σ1 f1 cls dd (s.trans a)
  | .bad, h => h
/-- an expression first, then a statement's rest -/
theorem tP.then {γ δ : Type} {Ra : RT γ δ} {ma : Rho → Res γ} {f : γ → Rho → SR} {K : δ → Hp → Prop} (E : EnvOk F G H σ ρ fp) (h : OutS F W Dn G H fp ((ma ρ).then f))
    (k : ∀ a ρ1 G1 H1 fp1 x, ma ρ = .ok a ρ1 → Adv G H fp G1 H1 fp1 → EnvOk F G1 H1 σ ρ1 fp1 → Ra H fp G1 H1 fp1 a x → OutS F W Dn G1 H1 fp1 (f a ρ1) → K x H1) : tP F W Ra ma σ H K := by
  refine ⟨G, ρ, fp, E, ?_⟩
  cases e : ma ρ with
  | ok a ρ1 =>
    rw [e] at h
    exact fun G1 H1 fp1 x s E1 r => k a ρ1 G1 H1 fp1 x e s E1 r (OutS.mono s h)
  | exc x ρ1 => rw [e] at h; exact fun G1 H1 fp1 cls dd a E1 => h G1 H1 σ fp1 cls dd a E1
  | bad => rw [e] at h; exact h
end
/-- list[i] by values -/
def rGetL (K : PySem.W.Frag) : V → V → Hp → VK → Prop := fun x y H Q => ∃ p xs i v, x = .ref p ∧ y = .int i ∧ SqL K H p xs ∧ atI xs i = some v ∧ Q v H
theorem get_lst {X : Cx} : PGet X (rGetL X.K) := by
  intro pins s σ H o i ov iv Q I ro ri h
  obtain ⟨p, xs, k, v, rfl, rfl, hq, hv, q⟩ := h
  cases ro
  obtain ⟨t, rfl⟩ := ri
  obtain ⟨its, r, pl, hz⟩ := I.list hq
  obtain ⟨j, h1, h2, h3, h4, h5⟩ := atI_get hv
  obtain ⟨w, ew, rw'⟩ := r.get h2
  have hl := r.length
  have hn := line63
  have fin : EP X pins σ Q w s := ⟨v, H, I, rw', q⟩
  by_cases h0 : 0 ≤ k
  · have hj : k.toNat = j := by
      rw [seqIndex_of h0 h5] at h1
      exact Option.some.inj h1
    exact getItem_listL pl.isList h0 (by omega) (by rw [hj]; exact ew) fin
  · have hj : (k + (its.toArray.size : Int)).toNat = j := by
      rw [seqIndex_neg (by omega) h4] at h1
      rw [List.size_toArray, ← hl]
      exact Option.some.inj h1
    exact wpAny_getItem_list_neg pl.isList (by omega) (by rw [List.size_toArray] <;> omega) (by omega) (by rw [hj]; simpa using ew) fin
section
variable {X : Cx} {F : Fm} {W : WXt} {a b e tg : Expr} {A B C : EvR} {pos p : Pos} {st : Stmt} {sts : List Stmt} {m m' : Rho → SR}
abbrev SndS (X : Cx) (F : Fm) (W : WXt) (m : Rho → SR) (st : Stmt) : Prop := PS X st (tSt F W m)
abbrev SndSs (X : Cx) (F : Fm) (W : WXt) (m : Rho → SR) (sts : List Stmt) : Prop := PSs X sts (tSt F W m)
theorem nxOut {Dn : Ends} {σ : L2.St} {G H : Hp} {ρ : Rho} {fp : Fps} (E : EnvOk F G H σ ρ fp) (h : OutS F W Dn G H fp (.nx ρ)) : Dn.nx σ H := h G H σ fp Adv.refl E
theorem snds_nil : SndSs X F W (fun ρ => .nx ρ) [] := PSs.weak pss_nil fun Dn σ H ⟨G, ρ, fp, E, h⟩ => nxOut E h
theorem snds_cons (h1 : SndS X F W m st) (h2 : SndSs X F W m' sts) : SndSs X F W (fun ρ => (m ρ).seq m') (st :: sts) := by
  refine PSs.weak (pss_cons h1 h2) fun Dn σ H ⟨G, ρ, fp, E, h⟩ => ?_
  replace h : OutS F W Dn G H fp ((m ρ).seq m') := h
  refine ⟨G, ρ, fp, E, ?_⟩
  cases e : m ρ with
  | nx ρ1 => rw [e] at h; exact fun G1 H1 σ1 f1 a E1 => ⟨G1, ρ1, f1, E1, OutS.mono a h⟩
  | bk ρ1 => rw [e] at h; exact h
  | ct ρ1 => rw [e] at h; exact h
  | rt d l ρ1 => rw [e] at h; exact h
  | exc x ρ1 => rw [e] at h; exact h
  | bad => rw [e] at h; exact h
theorem snds_pass : SndS X F W (fun ρ => .nx ρ) (.Pass pos) := PS.weak ps_pass fun Dn σ H ⟨G, ρ, fp, E, h⟩ => nxOut E h
theorem snds_doc {x j pos'} : SndS X F W (fun ρ => .nx ρ) (.Expr (.Constant (.str x) j pos) pos') := PS.weak ps_doc fun Dn σ H ⟨G, ρ, fp, E, h⟩ => nxOut E h
theorem snds_brk : SndS X F W (fun ρ => .bk ρ) (.Break pos) := PS.weak ps_break fun Dn σ H ⟨G, ρ, fp, E, h⟩ => h G H σ fp Adv.refl E
theorem snds_cont : SndS X F W (fun ρ => .ct ρ) (.Continue pos) := PS.weak ps_continue fun Dn σ H ⟨G, ρ, fp, E, h⟩ => h G H σ fp Adv.refl E
theorem snds_retN : SndS X F W (fun ρ => .rt .non 0 ρ) (.Return none pos) := PS.weak ps_retN fun Dn σ H ⟨G, ρ, fp, E, h⟩ => h G H σ fp .non Adv.refl E (ResR.of (by simp only [RepF]))
def noComp : Expr → Bool
  | .ListComp _ _ _ _ => false
  | .SetComp _ _ _ _ => false
  | .DictComp _ _ _ _ _ => false
  | _ => true
theorem swaps_no {e : Expr} (h : noComp e = true) (t : Option Expr) (n : Nat) (env : Env) : swapsWith e t n env = pure false := by
  cases e <;> first | rfl | (cases h)
theorem snds_ex (ha : Snd X F W A a) (hn : noComp a = true) : SndS X F W (fun ρ => (A.f ρ).then fun _ ρ1 => .nx ρ1) (.Expr a pos) := by
  refine PS.weak (ps_expr ha.f (swaps_no hn _ _ _)) fun Dn σ H ⟨G, ρ, fp, E, h⟩ => ?_
  exact tP.then E h fun x ρ1 G1 H1 fp1 v _ ad E1 r h1 => nxOut E1 h1
theorem snds_ret {ce : CE} (ha : Snd X F W A a) (hv : notVar ce = true) : SndS X F W (retV ce A.f) (.Return (some a) pos) := by
  refine PS.weak (ps_ret ha.f) fun Dn σ H ⟨G, ρ, fp, E, h⟩ => ?_
  have e : retV ce A.f = fun ρ => (A.f ρ).then fun p ρ1 => .rt p.1 p.2 ρ1 := by cases ce <;> first | rfl | (cases hv)
  rw [e] at h
  refine ⟨G, ρ, fp, E, ?_⟩
  cases e1 : A.f ρ with
  | ok p ρ1 =>
    simp only [e1, Res.then] at h
    exact fun G1 H1 f1 v ad E1 r => h G1 H1 σ f1 v ad E1 r
  | exc x ρ1 => simp only [e1, Res.then] at h; exact fun G1 H1 f1 cls dd a E1 => h G1 H1 σ f1 cls dd a E1
  | bad => simp only [e1, Res.then] at h; exact h
theorem snds_retvar {i : Nat} {x : Str} {f : Rho → Res (D × Nat)} (hN : X.N[i]? = some x) (hv : Vis X.env.scope x) (hd : (x == ("__debug__" : Str)) = false) (hcd : (x == ("__classdict__" : Str)) = false) : SndS X F W (retV (.var i) f) (.Return (some (.Name x p)) pos) := by
  refine PS.weak (ps_ret (pe_var hN hv hd hcd)) fun Dn σ H ⟨G, ρ, fp, E, h⟩ => ?_
  simp only [retV] at h
  split at h
  · rename_i d l e
    obtain ⟨fp', v, hv, E2, r, ad⟩ := E.move e
    exact ⟨v, hv, h G H σ fp' v ad E2 r⟩
  · exact h.elim
theorem snds_if {c : Expr} {cs ds : List Stmt} (hc : Snd X F W A c) (h1 : SndSs X F W m cs) (h2 : SndSs X F W m' ds) : SndS X F W (fun ρ => (A.t ρ).then fun c ρ1 => if c then m ρ1 else m' ρ1) (.If c cs ds pos) := by
  refine PS.weak (ps_if hc.t h1 h2) fun Dn σ H ⟨G, ρ, fp, E, h⟩ => ?_
  refine tP.then (Ra := BoolR) E h fun x ρ1 G1 H1 fp1 v _ ad E1 r h1 => ?_
  cases (show v = x from r)
  cases x with
  | true => rw [if_pos rfl] at h1 ⊢; exact ⟨G1, ρ1, fp1, E1, h1⟩
  | false => rw [if_neg (by simp)] at h1 ⊢; exact ⟨G1, ρ1, fp1, E1, h1⟩
/-- a store into a name: h stands at the statement's start -/
theorem asg_nm {i : Nat} {Dn : Ends} {σ : L2.St} {G H G0 H0 : Hp} {ρ : Rho} {fp fp0 : Fps} {q : D × Nat} {v : V} (E : EnvOk F G H σ ρ fp) (ad : Adv G0 H0 fp0 G H fp) (r : ResR F H0 fp0 G H fp q v) (h : OutS F W Dn G0 H0 fp0 (asgT F.ps (.nm i) q ρ)) : Dn.nx (σ.set i (some v)) H := by
  simp only [asgT] at h
  split at h
  · rename_i hz
    obtain ⟨l, h1, h2, h3⟩ := r
    obtain ⟨d, lv⟩ := q
    have E2 := E.put (i := i) (v := v) (d := d) (l := lv) (q := l) (by rw [← E.len]; exact hz.1) (.inl (by simpa using hz.2)) h1 h2 fun b hb => ⟨(h3 b hb).1, (h3 b hb).2.1, fun j _ => (h3 b hb).2.2.1 j⟩
    refine h G H _ _ ⟨ad.gg, ad.kp, ad.nw, fun j b z => ?_⟩ E2
    have z : b ∈ (if j = i then l else fp j) := z
    split at z
    · exact (h3 b z).2.2.2
    · exact ad.ff j b z
  · exact h.elim
theorem snds_nm {i : Nat} {x : Str} (ha : Snd X F W A a) (hn : noComp a = true) (hN : X.N.Nodup) (hi : X.N[i]? = some x) (hx : Loc X.env.scope x) (hf : X.fn x = true ∨ X.env.scope.names.lookup x = some .local) :
    SndS X F W (fun ρ => (A.f ρ).then fun q ρ1 => asgT F.ps (.nm i) q ρ1) (.Assign [.Name x p] a pos) := by
  refine PS.weak (ps_set hN hi hx ha.f (swaps_no hn _ _ _) hf) fun Dn σ H ⟨G, ρ, fp, E, h⟩ => ?_
  refine ⟨G, ρ, fp, E, ?_⟩
  cases e1 : A.f ρ with
  | ok q ρ1 =>
    simp only [e1, Res.then] at h
    exact fun G1 H1 f1 v ad E1 r => asg_nm E1 ad r h
  | exc x ρ1 => simp only [e1, Res.then] at h; exact fun G1 H1 f1 cls dd a E1 => h G1 H1 σ f1 cls dd a E1
  | bad => simp only [e1, Res.then] at h; exact h
/-- name = [..] on one line -/
theorem snds_nmlc {i : Nat} {f : Rho → Res (D × Nat)} (h : PS X st (tAsg (tV F W f) (gName i))) : SndS X F W (fun ρ => (f ρ).then fun q ρ1 => asgT F.ps (.nm i) q ρ1) st := by
  refine PS.weak h fun Dn σ H ⟨G, ρ, fp, E, h⟩ => ?_
  refine ⟨G, ρ, fp, E, ?_⟩
  cases e1 : f ρ with
  | ok q ρ1 =>
    simp only [e1, Res.then] at h
    exact fun G1 H1 f1 v ad E1 r => asg_nm E1 ad r h
  | exc x ρ1 => simp only [e1, Res.then] at h; exact fun G1 H1 f1 cls dd a E1 => h G1 H1 σ f1 cls dd a E1
  | bad => simp only [e1, Res.then] at h; exact h
/-- a value, frozen, then the rest of a statement -/
theorem thenF {f : Rho → Res (D × Nat)} {g : D × Nat → Rho → SR} {K : V → Hp → Prop} {σ : L2.St} {G H : Hp} {ρ : Rho} {fp : Fps} {Dn : Ends} (E : EnvOk F G H σ ρ fp) (h : OutS F W Dn G H fp ((f ρ).then g))
    (k : ∀ q ρ1 G1 H1 fp1 x, f ρ = .ok q ρ1 → Adv G H fp G1 H1 fp1 → EnvOk F G1 H1 σ ρ1 fp1 → RepF F.c G1 q.1 x → OutS F W Dn G1 H1 fp1 (g q ρ1) → K x H1) : tV F W f σ H K := by
  refine ⟨G, ρ, fp, E, ?_⟩
  cases e1 : f ρ with
  | ok q ρ1 =>
    simp only [e1, Res.then] at h
    intro G1 H1 f1 v ad E1 r
    obtain ⟨G2, E2, r2, ad2⟩ := frzQ ad E1 r
    exact k q ρ1 G2 H1 f1 v e1 ad2 E2 r2 (OutS.mono ad2 h)
  | exc x ρ1 => simp only [e1, Res.then] at h; exact fun G1 H1 f1 cls dd a E1 => h G1 H1 σ f1 cls dd a E1
  | bad => simp only [e1, Res.then] at h; exact h
def noTup : Expr → Bool
  | .Tuple _ _ _ => false
  | _ => true
/-- (a, b, ..) = value -/
theorem snds_tp {ts : CT} {es : List Expr} {k : Nat} {tpos : Pos} (ha : Snd X F W A a) (hn : noTup a = true) (ht : SndT X F (.tp ts) (.Tuple es k tpos)) :
    SndS X F W (fun ρ => (A.f ρ).then fun q ρ1 => asgT F.ps (.tp ts) q ρ1) (.Assign [.Tuple es k tpos] a pos) := by
  have hs : swapsWithSole [.Tuple es k tpos] a pos.line X.env = pure false := by cases a <;> rfl
  have hw : swappedStores [.Tuple es k tpos] a X.env = pure none := by cases a <;> first | rfl | (cases hn)
  refine PS.weak (ps_asg ha.f ht.g hs hw (by rw [ht.as]; rfl)) fun Dn σ H ⟨G, ρ, fp, E, h⟩ => ?_
  refine thenF E h fun q ρ1 G1 H1 fp1 x _ ad E1 r h1 => ?_
  simp only [asgT] at h1
  cases e : bindT F.ps (.tp ts) q.1 ρ1 with
  | none => rw [e] at h1; exact h1.elim
  | some ρ2 =>
    rw [e] at h1
    exact ⟨G1, ρ1, fp1, q.1, ρ2, E1, r, e, fun σ2 fp2 E2 ad2 _ => h1 G1 H1 σ2 fp2 ad2 E2⟩
/-- .. where the value is a tuple written out whose stores are not exchanged -/
theorem snds_tpt {ts : CT} {es : List Expr} {k : Nat} {tpos : Pos} (ha : Snd X F W A a) (hs : swapsWithSole [.Tuple es k tpos] a pos.line X.env = pure false) (hw : swappedStores [.Tuple es k tpos] a X.env = pure none) (ht : SndT X F (.tp ts) (.Tuple es k tpos)) :
    SndS X F W (fun ρ => (A.f ρ).then fun q ρ1 => asgT F.ps (.tp ts) q ρ1) (.Assign [.Tuple es k tpos] a pos) := by
  refine PS.weak (ps_asg ha.f ht.g hs hw (by rw [ht.as]; rfl)) fun Dn σ H ⟨G, ρ, fp, E, h⟩ => ?_
  refine thenF E h fun q ρ1 G1 H1 fp1 x _ ad E1 r h1 => ?_
  simp only [asgT] at h1
  cases e : bindT F.ps (.tp ts) q.1 ρ1 with
  | none => rw [e] at h1; exact h1.elim
  | some ρ2 =>
    rw [e] at h1
    exact ⟨G1, ρ1, fp1, q.1, ρ2, E1, r, e, fun σ2 fp2 E2 ad2 _ => h1 G1 H1 σ2 fp2 ad2 E2⟩
/-- one of several results that stand apart is stored -/
theorem ResRs.uncons {H0 G H : Hp} {fp0 fp : Fps} {q : D × Nat} {qs : List (D × Nat)} {vs : List V} (r : ResRs F H0 fp0 G H fp (q :: qs) vs) : ∃ v vr l, vs = v :: vr ∧ SlotR F.c G H q.2 q.1 v l ∧ l.Nodup ∧ (∀ b ∈ l, G b = none ∧ (F.B b = none ∨ b ∈ F.as) ∧ (∀ j, b ∉ fp j) ∧ (H0 b = none ∨ ∃ i, b ∈ fp0 i)) ∧
    ∀ fp', (∀ j b, b ∈ fp' j → b ∈ fp j ∨ b ∈ l) → ResRs F H0 fp0 G H fp' qs vr := by
  obtain ⟨ls, l1, l2, h1, h2, h3⟩ := r
  cases vs with
  | nil => simp at l2
  | cons v vr =>
    cases ls with
    | nil => simp at l1
    | cons l ls =>
      rw [List.flatten_cons, List.nodup_append] at h2
      refine ⟨v, vr, l, rfl, h1 0 q v l rfl rfl rfl, h2.1, fun b hb => h3 b (by rw [List.flatten_cons]; exact List.mem_append_left _ hb), fun fp' hf => ⟨ls, by simpa using l1, by simpa using l2, fun i p' v' q' a b c => h1 (i + 1) p' v' q' (by simpa using a) (by simpa using b) (by simpa using c), h2.2.1, fun b hb => ?_⟩⟩
      obtain ⟨c1, c2, c3, c4⟩ := h3 b (by rw [List.flatten_cons]; exact List.mem_append_right _ hb)
      refine ⟨c1, c2, fun j z => ?_, c4⟩
      rcases hf j b z with z | z
      · exact c3 j z
      · exact h2.2.2 b z b hb rfl
/-- several stored at once -/
def setsV : L2.St → List Nat → List V → L2.St
  | σ, i :: is, v :: vs => setsV (σ.set i (some v)) is vs
  | σ, _, _ => σ
theorem par_ok {G0 H0 : Hp} {fp0 : Fps} : ∀ {is : List Nat} {qs : List (D × Nat)} {vs : List V} {σ : L2.St} {G H : Hp} {ρ ρ' : Rho} {fp : Fps}, EnvOk F G H σ ρ fp → Adv G0 H0 fp0 G H fp → ResRs F H0 fp0 G H fp qs vs → parT F.ps is qs ρ = some ρ' →
    ∃ fp', EnvOk F G H (setsV σ is vs) ρ' fp' ∧ Adv G0 H0 fp0 G H fp'
  | [], [], vs, σ, G, H, ρ, ρ', fp, E, ad, r, h => by
    simp only [parT, Option.some.injEq] at h
    subst h
    obtain ⟨_, _, l2, _⟩ := r
    cases vs with
    | nil => exact ⟨fp, E, ad⟩
    | cons v vs => simp at l2
  | i :: is, q :: qs, vs, σ, G, H, ρ, ρ', fp, E, ad, r, h => by
    simp only [parT] at h
    split at h
    · rename_i hz
      obtain ⟨v, vr, l, rfl, h1, h2, h3, h4⟩ := r.uncons
      obtain ⟨d, lv⟩ := q
      have E2 := E.put (i := i) (v := v) (d := d) (l := lv) (q := l) (by rw [← E.len]; exact hz.1) (.inl (by simpa using hz.2.1)) h1 h2 fun b hb => ⟨(h3 b hb).1, (h3 b hb).2.1, fun j _ => (h3 b hb).2.2.1 j⟩
      have sub : ∀ (j : Nat) b, b ∈ (if j = i then l else fp j) → b ∈ fp j ∨ b ∈ l := fun j b z => by
        split at z
        · exact .inr z
        · exact .inl z
      show ∃ fp', EnvOk F G H (setsV (σ.set i (some v)) is vr) ρ' fp' ∧ Adv G0 H0 fp0 G H fp'
      refine par_ok E2 ⟨ad.gg, ad.kp, ad.nw, fun j b z => ?_⟩ (h4 _ sub) h
      rcases sub j b z with z | z
      · exact ad.ff j b z
      · exact (h3 b z).2.2.2
    · cases h
  | [], _ :: _, _, _, _, _, _, _, _, _, _, _, h => by cases h
  | _ :: _, [], _, _, _, _, _, _, _, _, _, _, h => by cases h
theorem parT_len {ps : List Nat} : ∀ {is : List Nat} {qs : List (D × Nat)} {ρ ρ' : Rho}, parT ps is qs ρ = some ρ' → qs.length = is.length
  | [], [], _, _, _ => rfl
  | i :: is, q :: qs, ρ, ρ', h => by
    simp only [parT] at h
    split at h
    · rw [List.length_cons, List.length_cons, parT_len h]
    · cases h
  | [], _ :: _, _, _, h => by cases h
  | _ :: _, [], _, _, h => by cases h
theorem snds_par {is : List Nat} {t : TS} (h : PS X st t) (ht : ∀ Dn σ H, (tAl F W A.al σ H fun vs H1 => vs.length = is.length ∧ Dn.nx (setsV σ is vs) H1) → t Dn σ H) :
    SndS X F W (fun ρ => (A.al ρ).then fun xs ρ1 => match parT F.ps is xs ρ1 with
      | some ρ2 => .nx ρ2
      | none => .bad) st := by
  refine PS.weak h fun Dn σ H ⟨G, ρ, fp, E, h⟩ => ht Dn σ H ?_
  refine ⟨G, ρ, fp, E, ?_⟩
  cases e1 : A.al ρ with
  | ok q ρ1 =>
    simp only [e1, Res.then] at h
    intro G1 H1 f1 vs ad E1 r
    cases e : parT F.ps is q ρ1 with
    | none => rw [e] at h; exact h.elim
    | some ρ2 =>
      rw [e] at h
      obtain ⟨fp', E2, ad2⟩ := par_ok E1 ad r e
      exact ⟨by obtain ⟨_, _, l2, _⟩ := r; rw [l2, parT_len e], h G1 H1 _ fp' ad2 E2⟩
  | exc x ρ1 => simp only [e1, Res.then] at h; exact fun G1 H1 f1 cls dd a E1 => h G1 H1 σ f1 cls dd a E1
  | bad => simp only [e1, Res.then] at h; exact h
theorem tP.imp {α β : Type} {R : RT α β} {m : Rho → Res α} {σ : L2.St} {H : Hp} {Q Q' : β → Hp → Prop} (h : tP F W R m σ H Q) (k : ∀ x H, Q x H → Q' x H) : tP F W R m σ H Q' := by
  obtain ⟨G, ρ, fp, E, h⟩ := h
  refine ⟨G, ρ, fp, E, ?_⟩
  cases e : m ρ with
  | ok a ρ1 => rw [e] at h; exact fun G1 H1 f1 v ad E1 r => k _ _ (h G1 H1 f1 v ad E1 r)
  | exc x ρ1 => rw [e] at h; exact h
  | bad => rw [e] at h; exact h
end
end Ev
end
section
set_option Elab.async false
set_option linter.all false
set_option maxRecDepth 100000
set_option maxHeartbeats 4000000
set_option autoImplicit false
namespace Ev
open PySem PySem.Spec PyProof.Rows L2
section
variable {X : Cx} {F : Fm} {W : WXt} {a b e tg : Expr} {A B C : EvR} {pos p : Pos} {st : Stmt} {sts : List Stmt} {m m' : Rho → SR}

/-! ### the slot of an own container, read before a store -/
theorem slot1 {σ : L2.St} {G H : Hp} {ρ : Rho} {fp : Fps} {i : Nat} {d : D} (E : EnvOk F G H σ ρ fp) (e : ρ[i]? = some (some (d, 1))) : ∃ a, σ[i]? = some (some (.ref a)) ∧ RepT F.c G H d a := by
  obtain ⟨v, hv, a, rfl, hf, ht⟩ := E.sl i d 1 e
  exact ⟨a, hv, ht⟩
theorem setO_ok {Dn : Ends} {σ : L2.St} {G H : Hp} {ρ : Rho} {fp : Fps} {i : Nat} {a : Addr} {k x : D} {y z : V} (E : EnvOk F G H σ ρ fp) (hv : σ[i]? = some (some (.ref a))) (hk : RepF F.c G k y) (hx : RepF F.c G x z) (h : OutS F W Dn G H fp (setO i k x ρ)) :
    rSetL (.ref a) y z H (fun H3 => Dn.nx σ H3) := by
  unfold setO at h
  split at h
  · rename_i d e
    obtain ⟨b, hb, ht⟩ := slot1 E e
    rw [hv] at hb
    cases hb
    cases e2 : setD d k x with
    | none => simp only [e2] at h; exact h.elim
    | some d' =>
      simp only [e2] at h
      cases d with
      | lst ds =>
        cases k with
        | int j =>
          simp only [setD, Option.map_eq_some_iff] at e2
          obtain ⟨n, hn, rfl⟩ := e2
          obtain ⟨vs, q1, q2⟩ := isLst ht
          simp only [RepF] at hk
          subst hk
          obtain ⟨E2, ad⟩ := E.chg (o' := .lst (vs.set n z)) e hv (RepT.list (RepFs.set hx n q2))
          exact ⟨a, vs, j, n, rfl, rfl, q1, by rw [q2.length]; exact hn, h G _ σ fp ad E2⟩
        | _ => cases e2
      | _ => cases e2
  · exact h.elim
theorem varO_own {σ : L2.St} {G H H0 : Hp} {ρ ρ0 : Rho} {fp fp0 : Fps} {i : Nat} {o : Opd} {x : V} (E : EnvOk F G H σ ρ fp) (e : varO i ρ0 = .ok o ρ) (r : OpdR F σ H0 fp0 G H fp o x) (h : mutOk i ρ = true) : ∃ a, x = .ref a ∧ σ[i]? = some (some (.ref a)) := by
  unfold mutOk at h
  split at h
  · rename_i ds q
    obtain ⟨v, hv, a, rfl, hf, ht⟩ := E.sl i _ 1 q
    refine ⟨a, ?_, hv⟩
    unfold varO at e
    split at e
    · cases e
      rename_i d q2
      rw [q] at q2
      cases q2
    · cases e
      have r : σ[i]? = some (some x) := r
      rw [hv] at r; cases r; rfl
    · cases e
      have r : σ[i]? = some (some x) := r
      rw [hv] at r; cases r; rfl
    · cases e
  · cases h
/-- o[i] = e -/
theorem snds_set {i : Nat} {x : Str} {p2 tpos : Pos} (hN : X.N[i]? = some x) (hv : Vis X.env.scope x) (hd : (x == ("__debug__" : Str)) = false) (hcd : (x == ("__classdict__" : Str)) = false) (ha : Snd X F W A a) (hb : Snd X F W B b) (hs : noSlice b = true) :
    SndS X F W (fun ρ => (A.f ρ).then fun p ρ1 => (varO i ρ1).then fun _ ρ2 => if mutOk i ρ2 then (B.f ρ2).then fun q ρ3 => setO i q.1 p.1 ρ3 else .bad) (.Assign [.Subscript (.Name x p2) b tpos] a pos) := by
  have ho : PE X (.Name x p2) (tO F W (varO i)) := PE.weak (pe_var hN hv hd hcd) tO_var
  have hg : PG X (.Subscript (.Name x p2) b tpos) (gSub (tO F W (varO i)) (tV F W B.f) rSetL) := pg_sub ho hb.f set_list (by intro v; cases b <;> first | rfl | (cases hs))
  have hsw : swapsWithSole [.Subscript (.Name x p2) b tpos] a pos.line X.env = pure false := by cases a <;> rfl
  have hsw2 : swappedStores [.Subscript (.Name x p2) b tpos] a X.env = pure none := by cases a <;> rfl
  refine PS.weak (ps_asg ha.f hg hsw hsw2) fun Dn σ H ⟨G, ρ, fp, E, h⟩ => ?_
  refine thenF E h fun q ρ1 G1 H1 fp1 z _ ad E1 r h1 => ?_
  refine tP.then (Ra := OpdR F σ) E1 h1 fun oo ρ2 G2 H2 fp2 y e2 ad2 E2 r2 h2 => ?_
  split at h2
  · rename_i hok
    obtain ⟨a', rfl, hv'⟩ := varO_own E2 e2 r2 hok
    refine thenF E2 h2 fun q3 ρ3 G3 H3 fp3 w _ ad3 E3 r3 h3 => ?_
    exact setO_ok (W := W) E3 hv' r3 (RepF.same (ad2.gg.trans ad3.gg) _ _ r) h3
  · exact h2.elim
def rIp (op : Operator) : V → V → Hp → VK → Prop := match op with
  | .Add => ipI fun i j => i + j
  | .Sub => ipI fun i j => i - j
  | _ => fun _ _ _ _ => False
theorem ip_any (op : Operator) : PIp X op (rIp op) := by
  cases op <;> first | exact ip_add | exact ip_sub | exact fun pins s σ H x y v u Q I r1 r2 h => False.elim h
theorem ipD_ok {c : Ct} {G H : Hp} {op : Operator} {x y r : D} {v w : V} {Q : VK} (hx : RepF c G x v) (hy : RepF c G y w) (e : ipD op x y = some r) (k : ∀ u, RepF c G r u → Q u H) : rIp op v w H Q := by
  cases op with
  | Add =>
    cases x with
    | int a =>
      cases y with
      | int b =>
        cases e
        simp only [RepF] at hx hy
        subst hx hy
        exact ⟨a, b, rfl, rfl, k _ (by simp only [RepF])⟩
      | _ => cases e
    | _ => cases y <;> cases e
  | Sub =>
    cases x with
    | int a =>
      cases y with
      | int b =>
        cases e
        simp only [RepF] at hx hy
        subst hx hy
        exact ⟨a, b, rfl, rfl, k _ (by simp only [RepF])⟩
      | _ => cases e
    | _ => cases y <;> cases e
  | _ => cases x <;> cases y <;> cases e
/-- o[i] op= e -/
theorem snds_sau {i : Nat} {x : Str} {op : Operator} {p2 tpos : Pos} (hK : X.K = F.c.K) (hN : X.N[i]? = some x) (hv : Vis X.env.scope x) (hd : (x == ("__debug__" : Str)) = false) (hcd : (x == ("__classdict__" : Str)) = false) (ha : Snd X F W A a) (hb : Snd X F W B b) (hs : noSlice b = true) :
    SndS X F W (fun ρ => (varO i ρ).then fun _ ρ1 => if mutOk i ρ1 then (B.f ρ1).then fun q ρ2 => match getO i q.1 ρ2 with
      | some old => (A.f ρ2).then fun p ρ3 => match ipD op old p.1 with
        | some r => setO i q.1 r ρ3
        | none => .bad
      | none => .bad else .bad) (.AugAssign (.Subscript (.Name x p2) b tpos) op a pos) := by
  have ho : PE X (.Name x p2) (tO F W (varO i)) := PE.weak (pe_var hN hv hd hcd) tO_var
  refine PS.weak (ps_augS ho hb.f get_lst ha.f (ip_any op) set_list (by intro ov iv new; cases b <;> first | rfl | (cases hs))) fun Dn σ H ⟨G, ρ, fp, E, h⟩ => ?_
  refine tP.then (Ra := OpdR F σ) E h fun oo ρ1 G1 H1 fp1 y e1 ad1 E1 r1 h1 => ?_
  split at h1
  · rename_i hok
    obtain ⟨a', rfl, hv'⟩ := varO_own E1 e1 r1 hok
    refine thenF E1 h1 fun q ρ2 G2 H2 fp2 w _ ad2 E2 r2 h2 => ?_
    cases e2 : getO i q.1 ρ2 with
    | none => simp only [e2] at h2; exact h2.elim
    | some old =>
      simp only [e2] at h2
      obtain ⟨dk, lk⟩ := q
      simp only at e2 r2 h2
      unfold getO at e2
      split at e2
      · rename_i ds j q1 q2
        obtain ⟨a2, hv2, ht⟩ := slot1 E2 q1
        rw [hv'] at hv2
        cases hv2
        obtain ⟨vs, t1, t2⟩ := isLst ht
        have r2' := r2
        simp only [RepF] at r2'
        subst r2'
        have hat : ∃ v, atI vs j = some v ∧ RepF F.c G2 old v := by
          unfold atI at e2 ⊢
          rw [t2.length]
          cases q3 : ixN ds.length j with
          | none => rw [q3] at e2; cases e2
          | some n =>
            rw [q3] at e2
            exact t2.get e2
        obtain ⟨v, hv3, ro⟩ := hat
        refine ⟨a', vs, j, v, rfl, rfl, by rw [hK]; exact SqL.of t1, hv3, ?_⟩
        refine thenF E2 h2 fun p3 ρ3 G3 H3 fp3 u _ ad3 E3 r3 h3 => ?_
        cases e3 : ipD op old p3.1 with
        | none => simp only [e3] at h3; exact h3.elim
        | some r =>
          simp only [e3] at h3
          exact ipD_ok (RepF.same ad3.gg _ _ ro) r3 e3 fun z hz => setO_ok (W := W) E3 hv' (RepF.same ad3.gg _ _ r2) hz h3
      · cases e2
  · exact h1.elim
/-- name op= e -/
theorem snds_aug {i : Nat} {x : Str} {op : Operator} {p2 : Pos} (hN : X.N.Nodup) (hi : X.N[i]? = some x) (hx : Loc X.env.scope x) (hf : X.fn x = true ∨ X.env.scope.names.lookup x = some .local) (ha : Snd X F W A a) :
    SndS X F W (fun ρ => match ρ[i]? with
      | some (some (x, 0)) => (A.f ρ).then fun p ρ1 => match ipD op x p.1 with
        | some r => asgT F.ps (.nm i) (r, 0) ρ1
        | none => .bad
      | _ => .bad) (.AugAssign (.Name x p2) op a pos) := by
  refine PS.weak (ps_aug hN hi hx ha.f (ip_any op) hf) fun Dn σ H ⟨G, ρ, fp, E, h⟩ => ?_
  dsimp only at h
  split at h
  · rename_i d e
    obtain ⟨v, hv, _, r⟩ := E.sl i d 0 e
    refine ⟨v, hv, ?_⟩
    refine thenF E h fun q ρ1 G1 H1 fp1 w _ ad1 E1 r1 h1 => ?_
    cases e3 : ipD op d q.1 with
    | none => simp only [e3] at h1; exact h1.elim
    | some r3 =>
      simp only [e3] at h1
      exact ipD_ok (RepF.same ad1.gg _ _ r) r1 e3 fun z hz => asg_nm (W := W) E1 Adv.refl (ResR.of hz) h1
  · exact h.elim

/-! ### fields -/
theorem RepFF.put {c : Ct} {G : Hp} {f : Str} {d : D} {v : V} (hd : RepF c G d v) : ∀ {fs : List (Str × D)} {gs : List (Str × V)}, RepFF c G fs gs → RepFF c G (putD f d fs) (putF f v gs)
  | [], gs, h => by
    simp only [RepFF] at h
    subst h
    simp only [putD, putF, RepFF]
    exact ⟨v, [], rfl, hd, rfl⟩
  | (y, e) :: fs, gs, h => by
    simp only [RepFF] at h
    obtain ⟨w, r, rfl, h1, h2⟩ := h
    simp only [putD, putF]
    by_cases hy : f = y
    · subst hy
      rw [if_pos rfl, if_pos rfl]
      simp only [RepFF]
      exact ⟨v, r, rfl, hd, h2⟩
    · rw [if_neg hy, if_neg (Ne.symm hy)]
      simp only [RepFF]
      exact ⟨w, _, rfl, h1, RepFF.put hd h2⟩
theorem RepFF.length {c : Ct} {G : Hp} : ∀ {fs : List (Str × D)} {gs : List (Str × V)}, RepFF c G fs gs → gs.length = fs.length
  | [], gs, h => by simp only [RepFF] at h; subst h; rfl
  | (y, e) :: fs, gs, h => by
    simp only [RepFF] at h
    obtain ⟨w, r, rfl, h1, h2⟩ := h
    rw [List.length_cons, List.length_cons, RepFF.length h2]
theorem fsetO_ok {Dn : Ends} {σ : L2.St} {G H : Hp} {ρ : Rho} {fp : Fps} {i : Nat} {f : Str} {x : D} {z : V} (E : EnvOk F G H σ ρ fp) (hx : RepF F.c G x z) (h : OutS F W Dn G H fp (fsetO i f x ρ)) :
    ∃ a k dx gs fs, ρ[i]? = some (some (.ins k fs, 1)) ∧ σ[i]? = some (some (.ref a)) ∧ H a = some (.ins (F.c.ca k) dx gs) ∧ gs.length < 1000 ∧ Dn.nx σ (upd H a (.ins (F.c.ca k) dx (putF f z gs))) := by
  unfold fsetO at h
  split at h
  · rename_i k fs e
    obtain ⟨a, ha, ht⟩ := slot1 E e
    obtain ⟨dx, gs, h1, h2⟩ := ht
    split at h
    · rename_i hl
      obtain ⟨E2, ad⟩ := E.chg (o' := .ins (F.c.ca k) dx (putF f z gs)) (d' := .ins k (putD f x fs)) e ha ⟨dx, _, upd_same, RepFF.put hx h2⟩
      exact ⟨a, k, dx, gs, fs, e, ha, h1, by rw [h2.length]; exact hl, h G _ σ fp ad E2⟩
    · exact h.elim
  · exact h.elim
theorem varO_ins {σ : L2.St} {G H H0 : Hp} {ρ ρ0 : Rho} {fp fp0 : Fps} {i : Nat} {o : Opd} {x : V} {d : D} (E : EnvOk F G H σ ρ fp) (e : varO i ρ0 = .ok o ρ) (r : OpdR F σ H0 fp0 G H fp o x) (h : ρ[i]? = some (some (d, 1))) : σ[i]? = some (some x) := by
  obtain ⟨v, hv, a, rfl, hf, ht⟩ := E.sl i _ 1 h
  unfold varO at e
  split at e
  · cases e
    rename_i d q2
    rw [h] at q2
    cases q2
  · cases e; exact r
  · cases e; exact r
  · cases e
/-- self.f = e -/
theorem snds_fst {i : Nat} {x f : Str} {p2 tpos : Pos} (hK : X.K = F.c.K) (hN : X.N[i]? = some x) (hv : Vis X.env.scope x) (hd : (x == ("__debug__" : Str)) = false) (hcd : (x == ("__classdict__" : Str)) = false) (ha : Snd X F W A a) (hc : ∀ k, Cls F.c.K (F.c.ca k) ∧ NoAttr F.c.K (F.c.ca k) f) :
    SndS X F W (fun ρ => (A.f ρ).then fun p ρ1 => (varO i ρ1).then fun _ ρ2 => fsetO i f p.1 ρ2) (.Assign [.Attribute (.Name x p2) f tpos] a pos) := by
  have ho : PE X (.Name x p2) (tO F W (varO i)) := PE.weak (pe_var hN hv hd hcd) tO_var
  refine PS.weak (ps_fld ho ha.f (by cases a <;> rfl)) fun Dn σ H ⟨G, ρ, fp, E, h⟩ => ?_
  refine thenF E h fun q ρ1 G1 H1 fp1 z _ ad E1 r h1 => ?_
  refine tP.then (Ra := OpdR F σ) E1 h1 fun oo ρ2 G2 H2 fp2 y e2 ad2 E2 r2 h2 => ?_
  have hx : σ[i]? = some (some y) := by
    have h2' := h2
    unfold fsetO at h2'
    split at h2'
    · rename_i k fs e
      exact varO_ins E2 e2 r2 e
    · exact h2'.elim
  obtain ⟨a', k, dx, gs, fs, q0, q1, q2, q3, q4⟩ := fsetO_ok (W := W) E2 (RepF.same ad2.gg _ _ r) h2
  rw [hx] at q1
  cases q1
  rw [hK]
  exact ⟨a', F.c.ca k, dx, gs, rfl, q2, (hc k).1, (hc k).2, q3, q4⟩
theorem fld_ip (op : Operator) : InOp X op (rIp op) := fun pins s σ H x y u v Q I rx ry h => ip_any op pins s σ H x y u v Q I rx ry h
/-- self.f op= e -/
theorem snds_fau {i : Nat} {x f : Str} {op : Operator} {p2 tpos : Pos} (hK : X.K = F.c.K) (hN : X.N[i]? = some x) (hv : Vis X.env.scope x) (hd : (x == ("__debug__" : Str)) = false) (hcd : (x == ("__classdict__" : Str)) = false) (ha : Snd X F W A a) (hc : ∀ k, Cls F.c.K (F.c.ca k) ∧ NoAttr F.c.K (F.c.ca k) f) :
    SndS X F W (fun ρ => match ρ[i]? with
      | some (some (.ins k fs, 1)) => match fs.lookup f with
        | some old => (A.f ρ).then fun p ρ1 => match ipD op old p.1 with
          | some r => if clsOk i k ρ1 then fsetO i f r ρ1 else .bad
          | none => .bad
        | none => .bad
      | _ => .bad) (.AugAssign (.Attribute (.Name x p2) f tpos) op a pos) := by
  refine PS.weak (ps_fldaug (pe_var hN hv hd hcd) ha.f (fld_ip op)) fun Dn σ H ⟨G, ρ, fp, E, h⟩ => ?_
  dsimp only at h
  split at h
  · rename_i k fs e
    obtain ⟨a', ha', ht⟩ := slot1 E e
    obtain ⟨dx, gs, h1, h2⟩ := ht
    split at h
    · rename_i old e2
      obtain ⟨v, hv2, rv⟩ := h2.get e2
      refine ⟨.ref a', ha', a', F.c.ca k, dx, gs, v, rfl, h1, by rw [hK]; exact (hc k).1, by rw [hK]; exact (hc k).2, hv2, ?_⟩
      refine thenF E h fun q ρ1 G1 H1 fp1 w _ ad1 E1 r1 h1' => ?_
      cases e3 : ipD op old q.1 with
      | none => simp only [e3] at h1'; exact h1'.elim
      | some r3 =>
        simp only [e3] at h1'
        refine ipD_ok (RepF.same ad1.gg _ _ rv) r1 e3 fun z hz => ?_
        split at h1'
        · rename_i hok
          obtain ⟨a2, k2, dx2, gs2, fs2, q0, q1, q2, q3, q4⟩ := fsetO_ok (W := W) E1 hz h1'
          rw [ha'] at q1
          cases q1
          unfold clsOk at hok
          rw [q0] at hok
          simp only [beq_iff_eq] at hok
          subst hok
          exact ⟨dx2, gs2, q2, q3, q4⟩
        · exact h1'.elim
    · exact h.elim
  · exact h.elim

/-! ### loops -/
theorem snds_while {c : Expr} (hp : PassesOwn (model X.prog X.w) X.A X.env X.xe) (hc : Snd X F W A c) (hb : SndSs X F W m sts) : SndS X F W (fun ρ => whileLoop A.t m whileFuel ρ) (.While c sts [] pos) := by
  refine PS.weak (ps_while hp hc.t hb) fun Dn σ H ⟨G, ρ, fp, E, h⟩ => ?_
  refine ⟨fun n σ H => ∃ G ρ fp, EnvOk F G H σ ρ fp ∧ OutS F W Dn G H fp (whileLoop A.t m n ρ), ⟨whileFuel, G, ρ, fp, E, h⟩, ?_⟩
  rintro n σ H ⟨G, ρ, fp, E, h⟩
  cases n with
  | zero => exact h.elim
  | succ n =>
    simp only [whileLoop] at h
    refine tP.then (Ra := BoolR) E h fun b ρ1 G1 H1 fp1 v _ ad E1 r h1 => ?_
    cases (show v = b from r)
    cases b with
    | false => rw [if_neg (by simp)] at h1 ⊢; exact nxOut E1 h1
    | true =>
      rw [if_pos rfl] at h1 ⊢
      refine ⟨fun σ H => ∃ G ρ fp, EnvOk F G H σ ρ fp ∧ OutS F W Dn G H fp (whileLoop A.t m n ρ), fun σ' H' q => ⟨n, Nat.lt_succ_self n, q⟩, G1, ρ1, fp1, E1, ?_⟩
      cases e : m ρ1 with
      | nx ρ2 => rw [e] at h1; exact fun G2 H2 σ2 f2 a E2 => ⟨G2, ρ2, f2, E2, OutS.mono a h1⟩
      | ct ρ2 => rw [e] at h1; exact fun G2 H2 σ2 f2 a E2 => ⟨G2, ρ2, f2, E2, OutS.mono a h1⟩
      | bk ρ2 => rw [e] at h1; exact h1
      | rt d l ρ2 => rw [e] at h1; exact h1
      | exc x ρ2 => rw [e] at h1; exact h1
      | bad => rw [e] at h1; exact h1
theorem snds_for {t : CT} {iter : Expr} (hp : PassesOwn (model X.prog X.w) X.A X.env X.xe) (hc : X.calm = true) (hi : SndI X F W A tg iter) (hg : SndT X F t tg) (hb : SndSs X F W m sts) :
    SndS X F W (fun ρ => (A.it ρ).then fun ds ρ1 => forLoop (bindT F.ps t) m ds ρ1) (.For tg iter sts [] pos) := by
  refine PS.weak (ps_for hp hc hi.it hg.g hb hi.fold) fun Dn σ H ⟨G, ρ, fp, E, h⟩ => ?_
  refine tP.then (Ra := ItR F) E h fun ds ρ1 G1 H1 fp1 J _ ad E1 wk h1 => ?_
  have wk : Wk F.c G1 J ds := wk
  refine for_it (G := fun H => Same G1 H) wk (fun i σ H => ∃ G ρ fp, EnvOk F G H σ ρ fp ∧ Same G1 G ∧ OutS F W Dn G H fp (forLoop (bindT F.ps t) m (ds.drop i) ρ)) ?_ ?_ ?_ ?_
  · exact ⟨G1, ρ1, fp1, E1, Same.refl _, by rw [List.drop_zero]; exact h1⟩
  · rintro i σ H - ⟨G, ρ, fp, E2, s, -⟩
    exact s.trans E2.le
  · rintro i x σ H2 H3 hi ⟨G, ρ, fp, E2, s, h2⟩ hy
    obtain ⟨G3, d, hd, ex, rd⟩ := hy G s E2.le
    have hdrop : ds.drop i = d :: ds.drop (i + 1) := by
      have hlt : i < ds.length := hi
      rw [List.getElem?_eq_getElem hlt] at hd
      cases hd
      exact List.drop_eq_getElem_cons hlt
    rw [hdrop] at h2
    simp only [forLoop] at h2
    cases hb : bindT F.ps t d ρ with
    | none => rw [hb] at h2; exact h2.elim
    | some ρ4 =>
      simp only [hb] at h2
      have E3 := E2.ext ex
      refine ⟨G3, ρ, fp, d, ρ4, E3, rd, hb, fun σ4 fp4 E4 ad4 _ => ?_⟩
      replace h2 := OutS.mono (ex.adv.trans ad4) h2
      refine ⟨G3, ρ4, fp4, E4, ?_⟩
      have s3 : Same G1 G3 := s.trans ex.gg
      cases e : m ρ4 with
      | nx ρ2 => rw [e] at h2; exact fun G5 H5 σ5 f5 a E5 => ⟨G5, ρ2, f5, E5, s3.trans a.gg, OutS.mono a h2⟩
      | ct ρ2 => rw [e] at h2; exact fun G5 H5 σ5 f5 a E5 => ⟨G5, ρ2, f5, E5, s3.trans a.gg, OutS.mono a h2⟩
      | bk ρ2 => rw [e] at h2; exact h2
      | rt d l ρ2 => rw [e] at h2; exact h2
      | exc x ρ2 => rw [e] at h2; exact h2
      | bad => rw [e] at h2; exact h2
  · rintro σ H2 ⟨G, ρ, fp, E2, s, h2⟩
    rw [List.drop_length] at h2
    exact nxOut E2 h2
end
end Ev
end
section
set_option Elab.async false
set_option linter.all false
set_option maxRecDepth 100000
set_option maxHeartbeats 4000000
set_option autoImplicit false
namespace Ev
open PySem PySem.Spec PyProof.Rows L2

/-- what stands in the text's top -/
structure Lw where
  fns : List (Str × Nat)
  cls : List (Str × Nat)
  inits : List (Nat × Nat)
  cons : List Str
  free : List Str
  meths : List (Nat × Str × Nat)
  flds : List Str
/-- where a piece of syntax stands -/
structure Mc where
  N : List Str
  sc : Scope
  calm : Bool
  top : Bool
  ps : List Nat
inductive Ar where
  | e (e : Expr)
  | l (es : List Expr)
  | o (o : Option Expr)
  | it (tg e : Expr)
def nameOk (x : Str) : Bool := !(x == ("__debug__" : Str)) && !(x == ("__classdict__" : Str))
def visB (sc : Scope) (x : Str) : Bool := match sc.names.lookup x with
  | some .local => true
  | some .cell => true
  | some .free => true
  | _ => false
def locB (sc : Scope) (x : Str) : Bool := match sc.names.lookup x with
  | some .local => true
  | some .cell => true
  | _ => false
def isLocal (sc : Scope) (x : Str) : Bool := decide (sc.names.lookup x = some .local)
def glB (sc : Scope) (x : Str) : Bool := decide (sc.names.lookup x = some .globalImplicit)
def varB (C : Mc) (i : Nat) (x : Str) : Bool := decide (C.N[i]? = some x) && visB C.sc x && nameOk x
/-- may stand before a dot -/
def baseOk : Expr → Bool
  | .Call _ _ _ _ => false
  | _ => true
def ctM (C : Mc) : CT → Ar → Bool
  | .nm i, .e (.Name x _) => decide (C.N[i]? = some x) && locB C.sc x && (C.top || isLocal C.sc x)
  | .tp ts, .e (.Tuple es _ _) => C.calm && ctM C ts (.l es)
  | .nil, .l [] => true
  | .cons t ts, .l (e :: es) => ctM C t (.e e) && ctM C ts (.l es)
  | _, _ => false
def ownOf (N : List Str) (own : List Nat) : List (Str × Nat) := own.map fun i => (N.getD i Str.empty, i)
def few (es : List Expr) : Bool := decide (0 < es.length) && decide (es.length < 30)

def isNilE : CE → Bool
  | .nil => true
  | _ => false
/-- gives a value -/
def valE : CE → Bool
  | .nil => false
  | .cons _ _ => false
  | .rg1 _ => false
  | .rg2 _ _ => false
  | .enm _ => false
  | .zip _ _ => false
  | .its _ => false
  | _ => true
def isTupE : Expr → Bool
  | .Tuple _ _ _ => true
  | _ => false
def mt (L : Lw) (T : Tb) : CE → Mc → Ar → Bool
  | .var i, C, .e (.Name x _) => varB C i x
  | .non, C, .e (.Constant .none _ _) => true
  | .bl b, C, .e (.Constant (.bool b') _ _) => decide (b = b')
  | .int b, C, .e (.Constant (.int b') _ _) => decide (b = b')
  | .str b, C, .e (.Constant (.str b') _ _) => decide (b = b')
  | .con x, C, .e (.Name y _) => decide (x = y) && glB C.sc x && decide (x ∈ L.cons) && nameOk x
  | .fnv j, C, .e (.Name x _) => glB C.sc x && decide (L.fns.lookup x = some j) && nameOk x
  | .bin op a b, C, .e (.BinOp a' op' b' _) => decide (op = op') && mt L T a C (.e a') && mt L T b C (.e b')
  | .neg a, C, .e (.UnaryOp .USub a' _) => mt L T a C (.e a')
  | .not a, C, .e (.UnaryOp .Not a' _) => mt L T a C (.e a')
  | .and a b, C, .e (.BoolOp .And es pos) => (match es with
      | [a', b'] => mt L T a C (.e a') && mt L T b C (.e b')
      | a' :: b' :: c' :: rest => mt L T a C (.e a') && mt L T b C (.e (.BoolOp .And (b' :: c' :: rest) pos))
      | _ => false)
  | .or a b, C, .e (.BoolOp .Or es pos) => (match es with
      | [a', b'] => mt L T a C (.e a') && mt L T b C (.e b')
      | a' :: b' :: c' :: rest => mt L T a C (.e a') && mt L T b C (.e (.BoolOp .Or (b' :: c' :: rest) pos))
      | _ => false)
  | .cmp op a b, C, .e (.Compare a' [op'] [b'] _) => decide (op = op') && !behindInMarks op' b' && mt L T a C (.e a') && mt L T b C (.e b')
  | .chn o1 o2 a b c, C, .e (.Compare a' [o1', o2'] [b', c'] _) => decide (o1 = o1') && decide (o2 = o2') && !lastMarks [o1', o2'] [b', c'] && mt L T a C (.e a') && mt L T b C (.e b') && mt L T c C (.e c')
  | .ife t a b, C, .e (.IfExp t' a' b' _) => mt L T t C (.e t') && mt L T a C (.e a') && mt L T b C (.e b')
  | .tup as, C, .e (.Tuple es _ _) => mt L T as C (.l es)
  | .lst as, C, .e (.List es _) => mt L T as C (.l es)
  | .nil, C, .l [] => true
  | .cons a as, C, .l (e :: es) => mt L T a C (.e e) && mt L T as C (.l es)
  | .ix a i, C, .e (.Subscript a' i' _) => noSlice i' && mt L T a C (.e a') && mt L T i C (.e i')
  | .slc a lo hi, C, .e (.Subscript a' (.Slice lo' hi' none _) _) => mt L T a C (.e a') && (match lo' with
      | none => isNilE lo
      | some x => valE lo && mt L T lo C (.e x)) && (match hi' with
      | none => isNilE hi
      | some x => valE hi && mt L T hi C (.e x))
  | .call j as, C, .e (.Call (.Name x _) es [] _) => glB C.sc x && decide (L.fns.lookup x = some j) && nameOk x && decide (j < T.n) && mt L T as C (.l es)
  | .cav i as, C, .e (.Call (.Name x _) (e :: es) [] _) => varB C i x && mt L T as C (.l (e :: es))
  | .blt b as, C, .e (.Call (.Name x _) (e :: es) [] _) => decide (x = bltN b) && glB C.sc x && decide (x ∈ L.free) && C.calm && mt L T as C (.l (e :: es))
  | .mth m a as, C, .e (.Call (.Attribute a' m' apos) (e :: es) [] pos) => decide (m' = mthN m) && baseOk a' && few (e :: es) && (apos.endLine == pos.line) && mt L T a C (.e a') && mt L T as C (.l (e :: es))
  | .fld a x, C, .e (.Attribute a' x' _) => decide (x = x') && decide (x ∈ L.flds) && baseOk a' && mt L T a C (.e a')
  | .mk k j as, C, .e (.Call (.Name x _) (e :: es) [] _) => glB C.sc x && decide (L.cls.lookup x = some k) && decide ((k, j) ∈ L.inits) && decide (j < T.n) && nameOk x && mt L T as C (.l (e :: es))
  | .mut m i as, C, .e (.Call (.Attribute (.Name x _) m' apos) es [] pos) => decide (m' = mutT m) && decide (m ≠ .setdefault) && varB C i x && (apos.endLine == pos.line) && mt L T as C (.l es) && (match es with
      | [] => decide (m = .pop)
      | _ :: _ => decide (es.length < 30))
  | .omt k m j i as, C, .e (.Call (.Attribute (.Name x _) m' apos) es [] pos) => decide (m = m') && decide ((k, m, j) ∈ L.meths) && decide (j < T.n) && varB C i x && decide ((T.io j).head? = some true) && (apos.endLine == pos.line) && decide (es.length < 30) && mt L T as C (.l es)
  | .isn a t, C, .e (.Call (.Name f _) [a', .Name tn _] [] _) => decide (f = "isinstance") && decide (tn = tyN t) && glB C.sc f && glB C.sc tn && decide (f ∈ L.free) && decide (tn ∈ L.free) && mt L T a C (.e a')
  | .lc own t it ifs e, C, .e (.ListComp e' [⟨tg, it', ifs', 0⟩] scope _) => C.calm && blkC C.N C.sc scope (ownOf C.N own) && (C.ps.all fun p => !own.contains p) && ((ctNames t).all fun i => own.contains i) && ctM { C with sc := relS scope C.sc, top := false } t (.e tg) &&
      (if valE it then noSet it' && mt L T it C (.e it') else mt L T it C (.it tg it')) && (match ifs' with
        | [] => isNilE ifs
        | [c] => valE ifs && mt L T ifs { C with sc := relS scope C.sc, top := false } (.e c)
        | _ => false) && mt L T e { C with sc := relS scope C.sc, top := false } (.e e')
  | .lrg a, C, .e (.Call (.Name f _) [.Call (.Name g _) [a'] [] _] [] _) => decide (f = "list") && decide (g = "range") && glB C.sc f && glB C.sc g && decide (f ∈ L.free) && decide (g ∈ L.free) && C.calm && mt L T a C (.e a')
  | .rg1 a, C, .it tg (.Call (.Name f _) [a'] [] _) => decide (f = "range") && glB C.sc f && decide (f ∈ L.free) && mt L T a C (.e a')
  | .rg2 a b, C, .it tg (.Call (.Name f _) [a', b'] [] _) => decide (f = "range") && glB C.sc f && decide (f ∈ L.free) && mt L T a C (.e a') && mt L T b C (.e b')
  | .enm a, C, .it tg (.Call (.Name f _) [a'] [] _) => isTupE tg && decide (f = "enumerate") && glB C.sc f && decide (f ∈ L.free) && mt L T a C (.e a')
  | .zip a b, C, .it tg (.Call (.Name f _) [a', b'] [] _) => isTupE tg && decide (f = "zip") && glB C.sc f && decide (f ∈ L.free) && mt L T a C (.e a') && mt L T b C (.e b')
  | _, _, _ => false
end Ev
end
section
set_option Elab.async false
set_option linter.all false
set_option maxRecDepth 100000
set_option maxHeartbeats 4000000
set_option autoImplicit false
namespace Ev
open PySem PySem.Spec PyProof.Rows L2

structure LawOk (K : PySem.W.Frag) (mg : Str → Option Value) (c : Ct) (L : Lw) (T : Tb) : Prop where
  fn : ∀ x j, L.fns.lookup x = some j → mg x = some (.ref (c.fa j))
  cls : ∀ x k, L.cls.lookup x = some k → mg x = some (.ref (c.ca k))
  init : ∀ k j, (k, j) ∈ L.inits → Mk K (c.ca k) (c.fa j)
  con : ∀ x, x ∈ L.cons → ∃ v u, mg x = some u ∧ RelV v u ∧ ∀ G, RepF c G (T.con x) v
  free : ∀ x, x ∈ L.free → mg x = none
  meth : ∀ k m j, (k, m, j) ∈ L.meths → Cls K (c.ca k) ∧ Meth K (c.ca k) m (c.fa j)
  fld : ∀ f, f ∈ L.flds → ∀ k, Cls K (c.ca k) ∧ NoAttr K (c.ca k) f
structure CxOk (L : Lw) (T : Tb) (C : Mc) (k : Nat) (X : Cx) (F : Fm) (W : WXt) : Prop where
  hK : X.K = F.c.K
  hN : X.N = C.N
  nd : C.N.Nodup
  hsc : X.env.scope = C.sc
  calm : C.calm = true → X.calm = true
  top : C.top = true → ∀ x, X.fn x = true
  law : LawOk X.K X.mg F.c L T
  fn : ∀ j, j < T.n → FnHas X.prog X.w X.K X.mg X.base F.c T k j
  room : Room (k + 1) X.A
  gd : X.A.guards = some []
  tk : Takes X W
  hl : F.as.length = F.ps.length
  ps : F.ps = C.ps
section
variable {L : Lw} {T : Tb} {C : Mc} {k : Nat} {X : Cx} {F : Fm} {W : WXt}
theorem CxOk.gl (c : CxOk L T C k X F W) {x : Str} (h : glB C.sc x = true) : Gl X x := by
  unfold glB at h
  show X.env.scope.names.lookup x = _
  rw [c.hsc]; exact of_decide_eq_true h
theorem CxOk.vis (c : CxOk L T C k X F W) {x : Str} (h : visB C.sc x = true) : Vis X.env.scope x := by
  rw [c.hsc]
  unfold visB at h
  unfold Vis
  split at h <;> first | exact .inl (by assumption) | exact .inr (.inl (by assumption)) | exact .inr (.inr (by assumption)) | cases h
theorem CxOk.loc (c : CxOk L T C k X F W) {x : Str} (h : locB C.sc x = true) : Loc X.env.scope x := by
  rw [c.hsc]
  unfold locB at h
  unfold L2.Loc
  split at h <;> first | exact .inl (by assumption) | exact .inr (by assumption) | cases h
theorem nameOk_ok {x : Str} (h : nameOk x = true) : (x == ("__debug__" : Str)) = false ∧ (x == ("__classdict__" : Str)) = false := by
  unfold nameOk at h
  simpa using h
theorem CxOk.var (c : CxOk L T C k X F W) {i : Nat} {x : Str} (h : varB C i x = true) : X.N[i]? = some x ∧ Vis X.env.scope x ∧ (x == ("__debug__" : Str)) = false ∧ (x == ("__classdict__" : Str)) = false := by
  unfold varB at h
  rw [Bool.and_eq_true, Bool.and_eq_true] at h
  obtain ⟨⟨h1, h2⟩, h3⟩ := h
  exact ⟨by rw [c.hN]; exact of_decide_eq_true h1, c.vis h2, (nameOk_ok h3).1, (nameOk_ok h3).2⟩
theorem CxOk.un (c : CxOk L T C k X F W) : X.A.units + 65 < cLine := by have := c.room.un; omega
/-- inside a comprehension -/
theorem CxOk.blk (c : CxOk L T C k X F W) {scope : Scope} {s : Shared} {H : Hp} {Ca : Addr} {cl : List (Str × Addr)} {fp : List Addr} : CxOk L T { C with sc := relS scope C.sc, top := false } k (X.blk s H scope (compEnvC scope cl Ca X.env) fp) F W0 where
  hK := c.hK
  hN := c.hN
  nd := c.nd
  hsc := by rw [← c.hsc]; rfl
  calm := c.calm
  top := fun z => nomatch z
  law := c.law
  fn := c.fn
  room := c.room
  gd := c.gd
  tk := takes0
  hl := c.hl
  ps := c.ps
/-- targets -/
def ConcT (X : Cx) (F : Fm) (t : CT) : Ar → Prop
  | .e e => SndT X F t e
  | .l es => SndTs X F t es
  | _ => True
theorem ctM_ok (c : CxOk L T C k X F W) : ∀ (t : CT) (a : Ar), ctM C t a = true → ConcT X F t a := by
  intro t
  induction t with
  | nm i =>
    intro a h
    unfold ctM at h
    split at h
    · rename_i i' x p q
      cases q
      rw [Bool.and_eq_true, Bool.and_eq_true, Bool.or_eq_true] at h
      obtain ⟨⟨h1, h2⟩, h3⟩ := h
      refine sndt_nm (by rw [c.hN]; exact c.nd) (by rw [c.hN]; exact of_decide_eq_true h1) (c.loc h2) ?_
      rcases h3 with z | z
      · exact .inl (c.top z x)
      · refine .inr ?_
        rw [c.hsc]; exact of_decide_eq_true z
    all_goals first | (rename_i q; cases q; done) | (rename_i q _; cases q; done) | (cases h; done)
  | tp ts ih =>
    intro a h
    unfold ctM at h
    split at h
    · rename_i q; cases q
    · rename_i ts' es n p q
      cases q
      rw [Bool.and_eq_true] at h
      exact sndt_tp c.hK (c.calm h.1) (ih _ h.2)
    all_goals first | (rename_i q; cases q; done) | (cases h; done)
  | nil =>
    intro a h
    unfold ctM at h
    split at h
    all_goals first | exact sndts_nil | (rename_i q; cases q; done) | (cases h; done)
  | cons t ts ih1 ih2 =>
    intro a h
    unfold ctM at h
    split at h
    · rename_i q; cases q
    · rename_i q; cases q
    · rename_i q; cases q
    · rename_i t' ts' e es q
      cases q
      rw [Bool.and_eq_true] at h
      exact sndts_cons (ih1 _ h.1) (ih2 _ h.2)
    · cases h
end
end Ev
end
section
set_option Elab.async false
set_option linter.all false
set_option maxRecDepth 100000
set_option maxHeartbeats 8000000
set_option autoImplicit false
namespace Ev
open PySem PySem.Spec PyProof.Rows L2
def Conc (X : Cx) (F : Fm) (W : WXt) (r : EvR) : Ar → Prop
  | .e e => Snd X F W r e ∧ ∀ op es pos, e = .BoolOp op es pos → PW X e (tT F W r.t)
  | .l es => SndA X F W r es
  | .it tg e => SndI X F W r tg e
  | .o _ => True
theorem sl_eq {T : Tb} {ps : List Nat} : ∀ {ce : CE}, valE ce = true → (ev T ps ce).sl = fun ρ => ((ev T ps ce).f ρ).bind fun p ρ1 => lift (optI p.1) ρ1 := by
  intro ce h
  cases ce <;> first | rfl | (cases h)
theorem it_eq {T : Tb} {ps : List Nat} : ∀ {ce : CE}, valE ce = true → (ev T ps ce).it = fun ρ => ((ev T ps ce).f ρ).bind fun p ρ1 => lift (seqItems p.1) ρ1 := by
  intro ce h
  cases ce <;> first | rfl | (cases h)
section
variable {L : Lw} {T : Tb}
theorem noB {X : Cx} {F : Fm} {W : WXt} {r : EvR} {e : Expr} (h : Snd X F W r e) (hn : ∀ op es pos, e ≠ .BoolOp op es pos) : Conc X F W r (.e e) := ⟨h, fun op es pos z => absurd z (hn op es pos)⟩
theorem sndp_of {X : Cx} {F : Fm} {W : WXt} {ps : List Nat} {ce : CE} {e : Expr} (hv : valE ce = true) (h : PE X e (tV F W (ev T ps ce).f)) : SndP X F W (ev T ps ce) (some e) := by
  refine ⟨?_⟩
  rw [sl_eq hv]
  exact (sndp_some (ca := ce) h).sl
theorem sndi_of {X : Cx} {F : Fm} {W : WXt} {ps : List Nat} {ce : CE} {tg e : Expr} (hK : X.K = F.c.K) (hv : valE ce = true) (h : PE X e (tV F W (ev T ps ce).f)) (hn : noSet e = true) : SndI X F W (ev T ps ce) tg e := by
  refine ⟨?_, (sndi_mk (ce := ce) (tg := tg) hK h hn).fold⟩
  rw [it_eq hv]
  exact (sndi_mk (ce := ce) hK h hn).it
theorem base_ok {a : Expr} {x : Str} {env : Env} (h : baseOk a = true) : attributeBase a x env (eval a env) = eval a env := by
  cases a <;> first | rfl | (cases h)
theorem fewForm {X : Cx} {es : List Expr} {pos : Pos} (pl : (backTo pos (starEach es X.env)).any (·.1) = false) (hl : es.length < 30) : ((PySem.backTo pos (starEach es X.env)).all (fun x => !x.1) && (PySem.backToKw pos (keywordEach [] X.env)).all (fun x => x.1.isSome) && decide (es.length + ([] : List Keyword).length + (if ([] : List Keyword).isEmpty then 0 else 1) < 30)) = true := few_of pl hl
theorem ownOf_map {N : List Str} {own : List Nat} : (ownOf N own).map (·.2) = own := by
  unfold ownOf
  rw [List.map_map]
  exact List.map_id _
theorem ba3 {a b : Bool} (h : (a && b) = true) : a = true ∧ b = true := Bool.and_eq_true_iff.mp h
theorem slcP {C : Mc} {k : Nat} {X : Cx} {F : Fm} {W : WXt} {lo : CE} {lo' : Option Expr} (c : CxOk L T C k X F W) (h2 : (match lo' with
      | none => isNilE lo
      | some x => valE lo && mt L T lo C (.e x)) = true)
    (ihl : ∀ (C : Mc) (a : Ar), mt L T lo C a = true → ∀ (k : Nat) (X : Cx) (F : Fm) (W : WXt), CxOk L T C k X F W → Conc X F W (ev T C.ps lo) a) : SndP X F W (ev T C.ps lo) lo' := by
  split at h2
  · have e : lo = .nil := by cases lo <;> first | rfl | (cases h2)
    subst e
    exact sndp_none
  · obtain ⟨q1, q2⟩ := ba3 h2
    exact sndp_of q1 (ihl _ _ q2 k X F W c).1.f
/-- a comprehension -/
theorem lc_ok {C : Mc} {k : Nat} {X : Cx} {F : Fm} {W : WXt} {own : List Nat} {t : CT} {it ifs e : CE} {e' tg it' : Expr} {ifs' : List Expr} {scope : Scope} {pos : Pos} (c : CxOk L T C k X F W) (h1 : C.calm = true) (h2 : blkC C.N C.sc scope (ownOf C.N own) = true) (h3 : (C.ps.all fun p => !own.contains p) = true) (h4 : ((ctNames t).all fun i => own.contains i) = true)
    (h5 : ctM { C with sc := relS scope C.sc, top := false } t (.e tg) = true) (h6 : (if valE it then noSet it' && mt L T it C (.e it') else mt L T it C (.it tg it')) = true)
    (h7 : (match ifs' with
        | [] => isNilE ifs
        | [c] => valE ifs && mt L T ifs { C with sc := relS scope C.sc, top := false } (.e c)
        | _ => false) = true) (h8 : mt L T e { C with sc := relS scope C.sc, top := false } (.e e') = true)
    (ihit : ∀ (C : Mc) (a : Ar), mt L T it C a = true → ∀ (k : Nat) (X : Cx) (F : Fm) (W : WXt), CxOk L T C k X F W → Conc X F W (ev T C.ps it) a)
    (ihifs : ∀ (C : Mc) (a : Ar), mt L T ifs C a = true → ∀ (k : Nat) (X : Cx) (F : Fm) (W : WXt), CxOk L T C k X F W → Conc X F W (ev T C.ps ifs) a)
    (ihe : ∀ (C : Mc) (a : Ar), mt L T e C a = true → ∀ (k : Nat) (X : Cx) (F : Fm) (W : WXt), CxOk L T C k X F W → Conc X F W (ev T C.ps e) a) :
    PE X (.ListComp e' [⟨tg, it', ifs', 0⟩] scope pos) (tV F W (ev T C.ps (.lc own t it ifs e)).f) ∧
    ∀ {y : Str} {py spos : Pos} {i : Nat}, X.N[i]? = some y → X.env.scope.names.lookup y = some .local → swapsWith (.ListComp e' [⟨tg, it', ifs', 0⟩] scope pos) (some (.Name y py)) spos.line X.env = pure true →
      PS X (.Assign [.Name y py] (.ListComp e' [⟨tg, it', ifs', 0⟩] scope pos) spos) (tAsg (tV F W (ev T C.ps (.lc own t it ifs e)).f) (gName i)) := by
  have hi : SndI X F W (ev T C.ps it) tg it' := by
    split at h6
    · rename_i hv
      obtain ⟨q1, q2⟩ := ba3 h6
      exact sndi_of c.hK hv (ihit _ _ q2 k X F W c).1.f q1
    · exact ihit _ _ h6 k X F W c
  have ok : BlkOk X.N X.env.scope scope (ownOf C.N own) := by rw [c.hN, c.hsc]; exact blkOk_by h2
  have hps : ∀ p ∈ F.ps, p ∉ (ownOf C.N own).map (·.2) := by
    rw [ownOf_map, c.ps]
    intro p hp
    have := List.all_eq_true.mp h3 p hp
    simpa using this
  have hnm : ∀ i ∈ ctNames t, i ∈ (ownOf C.N own).map (·.2) := by
    rw [ownOf_map]
    intro p hp
    have := List.all_eq_true.mp h4 p hp
    simpa using this
  have hc8 : ∀ {s : Shared} {H : Hp} {Ca : Addr} {cl : List (Str × Addr)} {fp : List Addr}, CxOk L T { C with sc := relS scope C.sc, top := false } k (X.blk s H scope (compEnvC scope cl Ca X.env) fp) F W0 := c.blk
  have main := snd_lc (W := W) (pos := pos) (t := t) (tt := ifsT ifs (ev T C.ps ifs).t) (ifs := ifs') (f := (ev T C.ps e).f) (ce := .lc own t it ifs e) rfl c.hK (c.calm h1) (by rw [c.hN]; exact c.nd) hi ok hps hnm (fun s H Ca cl fp => (ctM_ok hc8 t (.e tg) h5).g) (fun s H Ca cl fp => by
      split at h7
      · have e : ifs = .nil := by cases ifs <;> first | rfl | (cases h7)
        subst e
        exact ⟨fun pins s σ H Q I hh => pts_nil.run pins s σ H Q I (by
          obtain ⟨G, ρ, fp, E, hh⟩ := hh
          exact hh G H fp true Adv.refl E rfl)⟩
      · obtain ⟨q1, q2⟩ := ba3 h7
        have e : ifsT ifs (ev T C.ps ifs).t = (ev T C.ps ifs).t := by
          cases ifs <;> first | rfl | (cases q1)
        rw [e]
        exact pts_one (ihifs _ _ q2 k _ F W0 hc8).1.t
      · cases h7) fun s H Ca cl fp => (ihe _ _ h8 k _ F W0 hc8).1.f
  rw [ownOf_map] at main
  rw [c.ps] at main
  exact main
theorem mt_ok : ∀ (ce : CE) (C : Mc) (a : Ar), mt L T ce C a = true → ∀ (k : Nat) (X : Cx) (F : Fm) (W : WXt), CxOk L T C k X F W → Conc X F W (ev T C.ps ce) a := by
  intro ce
  induction ce with
  | var i  =>
    intro C ar h k X F W c
    unfold mt at h
    split at h <;> first | contradiction | skip
    rename_i i1 x pos heq
    cases heq
    obtain ⟨h1, h2, h3, h4⟩ := c.var h
    exact noB (snd_var c.hK h1 h2 h3 h4) (fun _ _ _ z => nomatch z)
  | non   =>
    intro C ar h k X F W c
    unfold mt at h
    split at h <;> first | contradiction | skip
    rename_i k1 pos heq
    cases heq
    exact noB (snd_non c.hK) (fun _ _ _ z => nomatch z)
  | bl b  =>
    intro C ar h k X F W c
    unfold mt at h
    split at h <;> first | contradiction | skip
    rename_i b1 b2 k1 pos heq
    cases heq
    have e := of_decide_eq_true h
    subst e
    exact noB (snd_bl c.hK) (fun _ _ _ z => nomatch z)
  | int b  =>
    intro C ar h k X F W c
    unfold mt at h
    split at h <;> first | contradiction | skip
    rename_i b1 b2 k1 pos heq
    cases heq
    have e := of_decide_eq_true h
    subst e
    exact noB (snd_int c.hK) (fun _ _ _ z => nomatch z)
  | str b  =>
    intro C ar h k X F W c
    unfold mt at h
    split at h <;> first | contradiction | skip
    rename_i b1 b2 k1 pos heq
    cases heq
    have e := of_decide_eq_true h
    subst e
    exact noB (snd_str c.hK) (fun _ _ _ z => nomatch z)
  | con x  =>
    intro C ar h k X F W c
    unfold mt at h
    split at h <;> first | contradiction | skip
    rename_i x1 y pos heq
    cases heq
    obtain ⟨h, h4⟩ := ba3 h
    obtain ⟨h, h3⟩ := ba3 h
    obtain ⟨h1, h2⟩ := ba3 h
    have e := of_decide_eq_true h1
    subst e
    obtain ⟨v, u, q1, q2, q3⟩ := c.law.con _ (of_decide_eq_true h3)
    exact noB (snd_con c.hK (c.gl h2) q1 q2 q3 (nameOk_ok h4).1) (fun _ _ _ z => nomatch z)
  | fnv j  =>
    intro C ar h k X F W c
    unfold mt at h
    split at h <;> first | contradiction | skip
    rename_i j1 x pos heq
    cases heq
    obtain ⟨h, h3⟩ := ba3 h
    obtain ⟨h1, h2⟩ := ba3 h
    exact noB (snd_fnv c.hK (c.gl h1) (c.law.fn _ _ (of_decide_eq_true h2)) (nameOk_ok h3).1) (fun _ _ _ z => nomatch z)
  | bin op a b iha ihb =>
    intro C ar h k X F W c
    unfold mt at h
    split at h <;> first | contradiction | skip
    rename_i op1 a1 b1 a' op' b' pos heq
    cases heq
    obtain ⟨h, h3⟩ := ba3 h
    obtain ⟨h1, h2⟩ := ba3 h
    have e := of_decide_eq_true h1
    subst e
    exact noB (snd_bin c.hK (iha _ _ h2 k X F W c).1 (ihb _ _ h3 k X F W c).1) (fun _ _ _ z => nomatch z)
  | neg a iha =>
    intro C ar h k X F W c
    unfold mt at h
    split at h <;> first | contradiction | skip
    rename_i a1 a' pos heq
    cases heq
    exact noB (snd_neg c.hK (iha _ _ h k X F W c).1) (fun _ _ _ z => nomatch z)
  | not a iha =>
    intro C ar h k X F W c
    unfold mt at h
    split at h <;> first | contradiction | skip
    rename_i a1 a' pos heq
    cases heq
    exact noB (snd_not (iha _ _ h k X F W c).1) (fun _ _ _ z => nomatch z)
  | and a b iha ihb =>
    intro C ar h k X F W c
    unfold mt at h
    split at h <;> first | contradiction | skip
    rename_i a1 b1 es pos heq
    cases heq
    split at h
    · rename_i a' b'
      obtain ⟨h1, h2⟩ := ba3 h
      obtain ⟨q1, q2⟩ := snd_one (op := .And) (pos := pos) (ihb _ _ h2 k X F W c).1
      obtain ⟨r1, r2⟩ := snd_and (ca := a) (cb := b) (pos := pos) (iha _ _ h1 k X F W c).1 q1 q2
      exact ⟨r1, fun op es pos' z => by cases z; exact r2⟩
    · rename_i a' b' c' rest
      obtain ⟨h1, h2⟩ := ba3 h
      obtain ⟨q1, q2⟩ := ihb _ _ h2 k X F W c
      obtain ⟨r1, r2⟩ := snd_and (ca := a) (cb := b) (pos := pos) (iha _ _ h1 k X F W c).1 q1 (q2 _ _ _ rfl)
      exact ⟨r1, fun op es pos' z => by cases z; exact r2⟩
    · cases h
  | or a b iha ihb =>
    intro C ar h k X F W c
    unfold mt at h
    split at h <;> first | contradiction | skip
    rename_i a1 b1 es pos heq
    cases heq
    split at h
    · rename_i a' b'
      obtain ⟨h1, h2⟩ := ba3 h
      obtain ⟨q1, q2⟩ := snd_one (op := .Or) (pos := pos) (ihb _ _ h2 k X F W c).1
      obtain ⟨r1, r2⟩ := snd_or (ca := a) (cb := b) (pos := pos) (iha _ _ h1 k X F W c).1 q1 q2
      exact ⟨r1, fun op es pos' z => by cases z; exact r2⟩
    · rename_i a' b' c' rest
      obtain ⟨h1, h2⟩ := ba3 h
      obtain ⟨q1, q2⟩ := ihb _ _ h2 k X F W c
      obtain ⟨r1, r2⟩ := snd_or (ca := a) (cb := b) (pos := pos) (iha _ _ h1 k X F W c).1 q1 (q2 _ _ _ rfl)
      exact ⟨r1, fun op es pos' z => by cases z; exact r2⟩
    · cases h
  | cmp op a b iha ihb =>
    intro C ar h k X F W c
    unfold mt at h
    split at h <;> first | contradiction | skip
    rename_i op1 a1 b1 a' op' b' pos heq
    cases heq
    obtain ⟨h, h4⟩ := ba3 h
    obtain ⟨h, h3⟩ := ba3 h
    obtain ⟨h1, h2⟩ := ba3 h
    have e := of_decide_eq_true h1
    subst e
    exact noB (snd_cmp c.hK c.un (iha _ _ h3 k X F W c).1 (ihb _ _ h4 k X F W c).1 (by simpa using h2)) (fun _ _ _ z => nomatch z)
  | chn o1 o2 a b d iha ihb ihd =>
    intro C ar h k X F W c
    unfold mt at h
    split at h <;> first | contradiction | skip
    rename_i o1' o2' a1 b1 c1 a' o3 o4 b' c' pos heq
    cases heq
    obtain ⟨h, h6⟩ := ba3 h
    obtain ⟨h, h5⟩ := ba3 h
    obtain ⟨h, h4⟩ := ba3 h
    obtain ⟨h, h3⟩ := ba3 h
    obtain ⟨h1, h2⟩ := ba3 h
    have e := of_decide_eq_true h1
    subst e
    have e := of_decide_eq_true h2
    subst e
    exact noB (snd_chn c.hK c.un (iha _ _ h4 k X F W c).1 (ihb _ _ h5 k X F W c).1 (ihd _ _ h6 k X F W c).1 (by simpa using h3)) (fun _ _ _ z => nomatch z)
  | ife t a b iht iha ihb =>
    intro C ar h k X F W c
    unfold mt at h
    split at h <;> first | contradiction | skip
    rename_i t1 a1 b1 t' a' b' pos heq
    cases heq
    obtain ⟨h, h3⟩ := ba3 h
    obtain ⟨h1, h2⟩ := ba3 h
    exact noB (snd_ife (iht _ _ h1 k X F W c).1 (iha _ _ h2 k X F W c).1 (ihb _ _ h3 k X F W c).1) (fun _ _ _ z => nomatch z)
  | tup as iha =>
    intro C ar h k X F W c
    unfold mt at h
    split at h <;> first | contradiction | skip
    rename_i a1 es n pos heq
    cases heq
    exact noB (snd_tup c.hK (iha _ _ h k X F W c)) (fun _ _ _ z => nomatch z)
  | lst as iha =>
    intro C ar h k X F W c
    unfold mt at h
    split at h <;> first | contradiction | skip
    rename_i a1 es pos heq
    cases heq
    exact noB (snd_lst c.hK (iha _ _ h k X F W c)) (fun _ _ _ z => nomatch z)
  | nil =>
    intro C ar h k X F W c
    unfold mt at h
    split at h <;> first | contradiction | skip
    exact snda_nil
  | cons a as iha ihs =>
    intro C ar h k X F W c
    unfold mt at h
    split at h <;> first | contradiction | skip
    rename_i a1 as1 e es heq
    cases heq
    obtain ⟨h1, h2⟩ := ba3 h
    exact snda_cons (iha _ _ h1 k X F W c).1 (ihs _ _ h2 k X F W c)
  | ix a i iha ihi =>
    intro C ar h k X F W c
    unfold mt at h
    split at h <;> first | contradiction | skip
    rename_i a1 i1 a' i' pos heq
    cases heq
    obtain ⟨h, h3⟩ := ba3 h
    obtain ⟨h1, h2⟩ := ba3 h
    exact noB (snd_ix c.hK (iha _ _ h2 k X F W c).1 (ihi _ _ h3 k X F W c).1 h1) (fun _ _ _ z => nomatch z)
  | slc a lo hi iha ihl ihh =>
    intro C ar h k X F W c
    unfold mt at h
    split at h <;> first | contradiction | skip
    rename_i a1 l1 h1 a' lo' hi' p2 pos heq
    cases heq
    obtain ⟨h, h3⟩ := ba3 h
    obtain ⟨h1, h2⟩ := ba3 h
    have hl := slcP c h2 ihl
    have hh := slcP c h3 ihh
    exact noB (snd_slc c.hK (iha _ _ h1 k X F W c).1 hl hh) (fun _ _ _ z => nomatch z)
  | rev a iha =>
    intro C ar h k X F W c
    unfold mt at h
    contradiction
  | call j as iha =>
    intro C ar h k X F W c
    unfold mt at h
    split at h <;> first | contradiction | skip
    rename_i j1 a1 x p es pos heq
    cases heq
    obtain ⟨h, h5⟩ := ba3 h
    obtain ⟨h, h4⟩ := ba3 h
    obtain ⟨h, h3⟩ := ba3 h
    obtain ⟨h1, h2⟩ := ba3 h
    have fh := c.fn _ (of_decide_eq_true h4)
    have hm := c.law.fn _ _ (of_decide_eq_true h2)
    have hr : Room k X.A := c.room.mono (Nat.le_succ k)
    have hs := iha _ _ h5 k X F W c
    cases es with
    | nil =>
      have e : as = .nil := by
        cases as <;> first | rfl | (unfold mt at h5; first | contradiction | (split at h5 <;> contradiction))
      subst e
      exact noB (snd_call0 c.hK c.tk c.gd hr fh (c.gl h1) hm (nameOk_ok h3).1) (fun _ _ _ z => nomatch z)
    | cons e es => exact noB (snd_call c.hK c.tk c.gd hr fh (c.gl h1) hm (nameOk_ok h3).1 hs (hs.hd _ _ rfl)) (fun _ _ _ z => nomatch z)
  | cav i as iha =>
    intro C ar h k X F W c
    unfold mt at h
    split at h <;> first | contradiction | skip
    rename_i i1 a1 x p e es pos heq
    cases heq
    obtain ⟨h1, h2⟩ := ba3 h
    obtain ⟨q1, q2, q3, q4⟩ := c.var h1
    have hs := iha _ _ h2 k X F W c
    exact noB (snd_cav c.hK c.tk c.gd (c.room.mono (Nat.le_succ k)) c.fn q1 q2 q3 q4 hs (hs.hd _ _ rfl)) (fun _ _ _ z => nomatch z)
  | blt b as iha =>
    intro C ar h k X F W c
    unfold mt at h
    split at h <;> first | contradiction | skip
    rename_i b1 a1 x p e es pos heq
    cases heq
    obtain ⟨h, h5⟩ := ba3 h
    obtain ⟨h, h4⟩ := ba3 h
    obtain ⟨h, h3⟩ := ba3 h
    obtain ⟨h1, h2⟩ := ba3 h
    have q := of_decide_eq_true h1
    subst q
    have hs := iha _ _ h5 k X F W c
    exact noB (snd_blt c.hK (c.calm h4) c.gd c.un (c.gl h2) (c.law.free _ (of_decide_eq_true h3)) hs (hs.hd _ _ rfl) (pl_tail hs (hs.hd _ _ rfl) pos)) (fun _ _ _ z => nomatch z)
  | mth m a as iha ihs =>
    intro C ar h k X F W c
    unfold mt at h
    split at h <;> first | contradiction | skip
    rename_i m1 a1 s1 a' m' apos e es pos heq
    cases heq
    obtain ⟨h, h6⟩ := ba3 h
    obtain ⟨h, h5⟩ := ba3 h
    obtain ⟨h, h4⟩ := ba3 h
    obtain ⟨h, h3⟩ := ba3 h
    obtain ⟨h1, h2⟩ := ba3 h
    have q := of_decide_eq_true h1
    subst q
    have hs := ihs _ _ h6 k X F W c
    have hl : (e :: es).length < 30 := by
      unfold few at h3
      exact of_decide_eq_true (ba3 h3).2
    exact noB (snd_mth c.hK c.un (iha _ _ h5 k X F W c).1 hs (base_ok h2) (fewForm (hs.pl pos) hl) h4 (hs.hd _ _ rfl) (pl_tail hs (hs.hd _ _ rfl) pos)) (fun _ _ _ z => nomatch z)
  | «mut» m i as iha =>
    intro C ar h k X F W c
    unfold mt at h
    split at h <;> first | contradiction | skip
    rename_i m1 i1 a1 x p m' apos es pos heq
    cases heq
    obtain ⟨h, h6⟩ := ba3 h
    obtain ⟨h, h5⟩ := ba3 h
    obtain ⟨h, h4⟩ := ba3 h
    obtain ⟨h, h3⟩ := ba3 h
    obtain ⟨h1, h2⟩ := ba3 h
    have q := of_decide_eq_true h1
    subst q
    obtain ⟨q1, q2, q3, q4⟩ := c.var h3
    have hs := iha _ _ h5 k X F W c
    cases es with
    | nil =>
      have e : as = .nil := by
        cases as <;> first | rfl | (unfold mt at h5; first | contradiction | (split at h5 <;> contradiction))
      subst e
      have q := of_decide_eq_true h6
      subst q
      exact noB (snd_mut0 c.hK q1 q2 q3 q4 h4) (fun _ _ _ z => nomatch z)
    | cons e es => exact noB (snd_mut c.hK (of_decide_eq_true h2) q1 q2 q3 q4 hs (hs.hd _ _ rfl) (of_decide_eq_true h6) h4) (fun _ _ _ z => nomatch z)
  | fld a x iha =>
    intro C ar h k X F W c
    unfold mt at h
    split at h <;> first | contradiction | skip
    rename_i a1 x1 a' x' pos heq
    cases heq
    obtain ⟨h, h4⟩ := ba3 h
    obtain ⟨h, h3⟩ := ba3 h
    obtain ⟨h1, h2⟩ := ba3 h
    have q := of_decide_eq_true h1
    subst q
    have hc := c.law.fld _ (of_decide_eq_true h2)
    rw [c.hK] at hc
    exact noB (snd_fld c.hK (iha _ _ h4 k X F W c).1 (base_ok h3) hc) (fun _ _ _ z => nomatch z)
  | omt kc m j i as iha =>
    intro C ar h k X F W c
    unfold mt at h
    split at h <;> first | contradiction | skip
    rename_i k1 m1 j1 i1 a1 x p m' apos es pos heq
    cases heq
    obtain ⟨h, h8⟩ := ba3 h
    obtain ⟨h, h7⟩ := ba3 h
    obtain ⟨h, h6⟩ := ba3 h
    obtain ⟨h, h5⟩ := ba3 h
    obtain ⟨h, h4⟩ := ba3 h
    obtain ⟨h, h3⟩ := ba3 h
    obtain ⟨h1, h2⟩ := ba3 h
    have q := of_decide_eq_true h1
    subst q
    obtain ⟨q1, q2, q3, q4⟩ := c.var h4
    obtain ⟨hc, hm⟩ := c.law.meth _ _ _ (of_decide_eq_true h2)
    have fh := c.fn _ (of_decide_eq_true h3)
    have hr : Room k X.A := c.room.mono (Nat.le_succ k)
    have hs := iha _ _ h8 k X F W c
    cases es with
    | nil =>
      have e : as = .nil := by
        cases as <;> first | rfl | (unfold mt at h8; first | contradiction | (split at h8 <;> contradiction))
      subst e
      exact noB (snd_omt0 c.hK c.tk c.gd hr fh hc hm q1 q2 q3 q4 h6) (fun _ _ _ z => nomatch z)
    | cons e es => exact noB (snd_omt c.hK c.tk c.gd hr fh hc hm (of_decide_eq_true h5) q1 q2 q3 q4 hs (hs.hd _ _ rfl) (of_decide_eq_true h7) h6) (fun _ _ _ z => nomatch z)
  | mk kc j as iha =>
    intro C ar h k X F W c
    unfold mt at h
    split at h <;> first | contradiction | skip
    rename_i k1 j1 a1 x p e es pos heq
    cases heq
    obtain ⟨h, h6⟩ := ba3 h
    obtain ⟨h, h5⟩ := ba3 h
    obtain ⟨h, h4⟩ := ba3 h
    obtain ⟨h, h3⟩ := ba3 h
    obtain ⟨h1, h2⟩ := ba3 h
    have hs := iha _ _ h6 k X F W c
    exact noB (snd_mki c.hK c.hl c.gd c.room (c.fn _ (of_decide_eq_true h4)) (c.law.init _ _ (of_decide_eq_true h3)) (c.gl h1) (c.law.cls _ _ (of_decide_eq_true h2)) (nameOk_ok h5).1 hs (hs.hd _ _ rfl)) (fun _ _ _ z => nomatch z)
  | isn a t iha =>
    intro C ar h k X F W c
    unfold mt at h
    split at h <;> first | contradiction | skip
    rename_i a1 t1 f p1 a' tn p2 pos heq
    cases heq
    obtain ⟨h, h7⟩ := ba3 h
    obtain ⟨h, h6⟩ := ba3 h
    obtain ⟨h, h5⟩ := ba3 h
    obtain ⟨h, h4⟩ := ba3 h
    obtain ⟨h, h3⟩ := ba3 h
    obtain ⟨h1, h2⟩ := ba3 h
    have q := of_decide_eq_true h1
    subst q
    have q := of_decide_eq_true h2
    subst q
    exact noB (snd_isn c.hK (iha _ _ h7 k X F W c).1 (c.gl h3) (c.law.free _ (of_decide_eq_true h5)) (c.gl h4) (c.law.free _ (of_decide_eq_true h6)) pos) (fun _ _ _ z => nomatch z)
  | lc own t it ifs e ihit ihifs ihe =>
    intro C ar h k X F W c
    unfold mt at h
    split at h <;> first | contradiction | skip
    rename_i own1 t1 it1 ifs1 e1 e' tg it' ifs' scope pos heq
    cases heq
    obtain ⟨h, h8⟩ := ba3 h
    obtain ⟨h, h7⟩ := ba3 h
    obtain ⟨h, h6⟩ := ba3 h
    obtain ⟨h, h5⟩ := ba3 h
    obtain ⟨h, h4⟩ := ba3 h
    obtain ⟨h, h3⟩ := ba3 h
    obtain ⟨h1, h2⟩ := ba3 h
    have hlc := lc_ok (pos := pos) c h1 h2 h3 h4 h5 h6 h7 h8 ihit ihifs ihe
    exact noB (snd_mk c.hK hlc.1 rfl (fun _ => rfl) fun _ _ => rfl) (fun _ _ _ z => nomatch z)
  | rg1 a iha =>
    intro C ar h k X F W c
    unfold mt at h
    split at h <;> first | contradiction | skip
    rename_i a1 tg f p a' pos heq
    cases heq
    obtain ⟨h, h4⟩ := ba3 h
    obtain ⟨h, h3⟩ := ba3 h
    obtain ⟨h1, h2⟩ := ba3 h
    have q := of_decide_eq_true h1
    subst q
    exact sndi_rg1 (iha _ _ h4 k X F W c).1 (c.gl h2) (c.law.free _ (of_decide_eq_true h3))
  | rg2 a b iha ihb =>
    intro C ar h k X F W c
    unfold mt at h
    split at h <;> first | contradiction | skip
    rename_i a1 b1 tg f p a' b' pos heq
    cases heq
    obtain ⟨h, h5⟩ := ba3 h
    obtain ⟨h, h4⟩ := ba3 h
    obtain ⟨h, h3⟩ := ba3 h
    obtain ⟨h1, h2⟩ := ba3 h
    have q := of_decide_eq_true h1
    subst q
    exact sndi_rg2 (iha _ _ h4 k X F W c).1 (ihb _ _ h5 k X F W c).1 (c.gl h2) (c.law.free _ (of_decide_eq_true h3))
  | enm a iha =>
    intro C ar h k X F W c
    unfold mt at h
    split at h <;> first | contradiction | skip
    rename_i a1 tg f p a' pos heq
    cases heq
    obtain ⟨h, h4⟩ := ba3 h
    obtain ⟨h, h3⟩ := ba3 h
    obtain ⟨h, h2⟩ := ba3 h
    obtain ⟨h0, h1⟩ := ba3 h
    have q := of_decide_eq_true h1
    subst q
    cases tg <;> first | (cases h0; done) | exact sndi_enm c.hK (iha _ _ h4 k X F W c).1 (c.gl h2) (c.law.free _ (of_decide_eq_true h3))
  | zip a b iha ihb =>
    intro C ar h k X F W c
    unfold mt at h
    split at h <;> first | contradiction | skip
    rename_i a1 b1 tg f p a' b' pos heq
    cases heq
    obtain ⟨h, h5⟩ := ba3 h
    obtain ⟨h, h4⟩ := ba3 h
    obtain ⟨h, h3⟩ := ba3 h
    obtain ⟨h, h2⟩ := ba3 h
    obtain ⟨h0, h1⟩ := ba3 h
    have q := of_decide_eq_true h1
    subst q
    cases tg <;> first | (cases h0; done) | exact sndi_zip c.hK (iha _ _ h4 k X F W c).1 (ihb _ _ h5 k X F W c).1 (c.gl h2) (c.law.free _ (of_decide_eq_true h3))
  | its a iha =>
    intro C ar h k X F W c
    unfold mt at h
    contradiction
  | lrg a iha =>
    intro C ar h k X F W c
    unfold mt at h
    split at h <;> first | contradiction | skip
    rename_i a1 f p g p2 a' pos2 pos heq
    cases heq
    obtain ⟨h, h8⟩ := ba3 h
    obtain ⟨h, h7⟩ := ba3 h
    obtain ⟨h, h6⟩ := ba3 h
    obtain ⟨h, h5⟩ := ba3 h
    obtain ⟨h, h4⟩ := ba3 h
    obtain ⟨h, h3⟩ := ba3 h
    obtain ⟨h1, h2⟩ := ba3 h
    have q := of_decide_eq_true h1
    subst q
    have q := of_decide_eq_true h2
    subst q
    exact noB (snd_lrg c.hK (c.calm h7) (iha _ _ h8 k X F W c).1 (c.gl h3) (c.law.free _ (of_decide_eq_true h5)) (c.gl h4) (c.law.free _ (of_decide_eq_true h6))) (fun _ _ _ z => nomatch z)
  | dnw =>
    intro C ar h k X F W c
    unfold mt at h
    contradiction
end
end Ev
end
section
set_option Elab.async false
set_option linter.all false
set_option maxRecDepth 100000
set_option maxHeartbeats 8000000
set_option autoImplicit false
namespace Ev
open PySem PySem.Spec PyProof.Rows L2
inductive Sr where
  | s (s : Stmt)
  | l (ss : List Stmt)
def bkOf (sc : Scope) : ScopeKind := if sc.kind.isAnnotationScope then .function else sc.kind
/-- is the list given out before the block's names go -/
def swB (sc : Scope) (y : Str) (py : Pos) (scope : Scope) (pos : Pos) : Bool := bkOf sc == .function && sc.names.lookup y == some .local && py.line == pos.line && !(scope.names.any fun (n, k) => n == y && (k == .local || k == .cell))
theorem swB_ok {env : Env} {elt : Expr} {gens : List Comprehension} {scope : Scope} {pos py : Pos} {y : Str} {n : Nat} : swapsWith (.ListComp elt gens scope pos) (some (.Name y py)) n env = pure (swB env.scope y py scope pos) := rfl
/-- the stores of a, b = c, d: some none: not exchanged -/
def parN (sc : Scope) (ts vs : List Expr) : Option (Option (List Str)) :=
  if !(ts.length == 2 || ts.length == 3) || vs.length != ts.length || bkOf sc != .function then some none else
  if vs.any fun | .Starred .. => true | _ => false then some none else
  let line := (ts.head?.map (·.pos.line)).getD 0
  let names := ts.filterMap fun
    | .Name id pos => if sc.names.lookup id == some .local && pos.line == line then some id else none
    | _ => none
  if names.length != ts.length || names.eraseDups.length != names.length then some none else
  if vs.all (foldedForSure 8) then some none else
  if vs.all (constantsAlone 8) then none else
  some (some names)
theorem parN_ok {env : Env} {ts vs : List Expr} {k k2 : Nat} {p p2 : Pos} {r : Option (List Str)} (h : parN env.scope ts vs = some r) : swappedStores [.Tuple ts k p] (.Tuple vs k2 p2) env = pure r := by
  have key : ∀ (c1 c2 c3 c4 c5 : Bool) (x : List Str) (z : Sem (Option (List Str))), (if c1 = true then some none else if c2 = true then some none else if c3 = true then some none else if c4 = true then some none else if c5 = true then none else some (some x)) = some r →
      (if c1 = true then pure none else if c2 = true then pure none else if c3 = true then pure none else if c4 = true then pure none else if c5 = true then z else pure (some x)) = (pure r : Sem (Option (List Str))) := by
    intro c1 c2 c3 c4 c5 x z h
    cases c1 <;> cases c2 <;> cases c3 <;> cases c4 <;> cases c5 <;> first | (cases h; done) | (simp at h; subst h; rfl)
  unfold swappedStores
  simp only [pure_bind, bne_iff_ne, ne_eq]
  exact key _ _ _ _ _ _ _ h
def nameIx (C : Mc) (i : Nat) (e : Expr) : Bool := match e with
  | .Name x _ => decide (C.N[i]? = some x) && isLocal C.sc x
  | _ => false
def ms (L : Lw) (T : Tb) : CS → Mc → Sr → Bool
  | .nil, C, .l [] => true
  | .seq a b, C, .l (x :: xs) => ms L T a C (.s x) && ms L T b C (.l xs)
  | .pass, C, .s (.Pass _) => true
  | .pass, C, .s (.Expr (.Constant (.str _) _ _) _) => true
  | .ex e, C, .s (.Expr e' _) => noComp e' && valE e && mt L T e C (.e e')
  | .asg (.nm i) e, C, .s (.Assign [.Name x p] (.ListComp elt gens scope lpos) pos) => ctM C (.nm i) (.e (.Name x p)) && valE e && mt L T e C (.e (.ListComp elt gens scope lpos)) && (!swB C.sc x p scope lpos || isLocal C.sc x)
  | .asg (.nm i) e, C, .s (.Assign [.Name x p] e' pos) => noComp e' && ctM C (.nm i) (.e (.Name x p)) && valE e && mt L T e C (.e e')
  | .asg (.tp ts) e, C, .s (.Assign [.Tuple es k tpos] (.Tuple vs k2 p2) pos) => ctM C (.tp ts) (.e (.Tuple es k tpos)) && valE e && mt L T e C (.e (.Tuple vs k2 p2)) && decide (parN C.sc es vs = some none)
  | .asg (.tp ts) e, C, .s (.Assign [.Tuple es k tpos] e' pos) => noTup e' && ctM C (.tp ts) (.e (.Tuple es k tpos)) && valE e && mt L T e C (.e e')
  | .par [i, j] as, C, .s (.Assign [.Tuple [.Name x px, .Name y py] k tpos] (.Tuple [a, b] k2 p2) pos) => C.calm && decide (i ≠ j) && nameIx C i (.Name x px) && nameIx C j (.Name y py) && mt L T as C (.l [a, b]) && decide (parN C.sc [.Name x px, .Name y py] [a, b] = some (some [x, y]))
  | .par [i, j, l] as, C, .s (.Assign [.Tuple [.Name x px, .Name y py, .Name z pz] k tpos] (.Tuple [a, b, c] k2 p2) pos) => C.calm && decide (i ≠ j) && decide (i ≠ l) && decide (j ≠ l) && nameIx C i (.Name x px) && nameIx C j (.Name y py) && nameIx C l (.Name z pz) && mt L T as C (.l [a, b, c]) &&
      decide (parN C.sc [.Name x px, .Name y py, .Name z pz] [a, b, c] = some (some [x, y, z]))
  | .aug i op e, C, .s (.AugAssign (.Name x p) op' e' _) => decide (op = op') && ctM C (.nm i) (.e (.Name x p)) && valE e && mt L T e C (.e e')
  | .set i ix e, C, .s (.Assign [.Subscript (.Name x _) ix' _] e' _) => varB C i x && noSlice ix' && valE ix && mt L T ix C (.e ix') && valE e && mt L T e C (.e e')
  | .sau i ix op e, C, .s (.AugAssign (.Subscript (.Name x _) ix' _) op' e' _) => decide (op = op') && varB C i x && noSlice ix' && valE ix && mt L T ix C (.e ix') && valE e && mt L T e C (.e e')
  | .fst i f e, C, .s (.Assign [.Attribute (.Name x _) f' _] e' _) => decide (f = f') && varB C i x && decide (f ∈ L.flds) && valE e && mt L T e C (.e e')
  | .fau i f op e, C, .s (.AugAssign (.Attribute (.Name x _) f' _) op' e' _) => decide (op = op') && decide (f = f') && varB C i x && decide (f ∈ L.flds) && valE e && mt L T e C (.e e')
  | .ret e, C, .s (.Return (some e') _) => (match e, e' with
      | .var i, .Name x _ => varB C i x
      | _, _ => notVar e && valE e) && mt L T e C (.e e')
  | .retN, C, .s (.Return none _) => true
  | .ite t a b, C, .s (.If t' as bs _) => valE t && mt L T t C (.e t') && ms L T a C (.l as) && ms L T b C (.l bs)
  | .for_ t it b, C, .s (.For tg it' bs [] _) => C.calm && ctM C t (.e tg) && (if valE it then noSet it' && mt L T it C (.e it') else mt L T it C (.it tg it')) && ms L T b C (.l bs)
  | .while_ t b, C, .s (.While t' bs [] _) => valE t && mt L T t C (.e t') && ms L T b C (.l bs)
  | .brk, C, .s (.Break _) => true
  | .cont, C, .s (.Continue _) => true
  | _, _, _ => false
def ConcS (X : Cx) (F : Fm) (W : WXt) (m : Rho → SR) : Sr → Prop
  | .s st => SndS X F W m st
  | .l sts => SndSs X F W m sts
section
variable {L : Lw} {T : Tb}
theorem snds_nmS {X : Cx} {F : Fm} {W : WXt} {f : Rho → Res (D × Nat)} {a : Expr} {pos p : Pos} {i : Nat} {x : Str} (ha : PE X a (tV F W f)) (hs : swapsWith a (some (.Name x p)) pos.line X.env = pure false) (hN : X.N.Nodup) (hi : X.N[i]? = some x) (hx : L2.Loc X.env.scope x) (hf : X.fn x = true ∨ X.env.scope.names.lookup x = some .local) :
    SndS X F W (fun ρ => (f ρ).then fun q ρ1 => asgT F.ps (.nm i) q ρ1) (.Assign [.Name x p] a pos) := snds_nmlc (ps_set hN hi hx ha hs hf)
theorem ctM_nm {C : Mc} {k : Nat} {X : Cx} {F : Fm} {W : WXt} (c : CxOk L T C k X F W) {i : Nat} {x : Str} {p : Pos} (h : ctM C (.nm i) (.e (.Name x p)) = true) : X.N[i]? = some x ∧ L2.Loc X.env.scope x ∧ (X.fn x = true ∨ X.env.scope.names.lookup x = some .local) := by
  have h : (decide (C.N[i]? = some x) && locB C.sc x && (C.top || isLocal C.sc x)) = true := h
  obtain ⟨h, h3⟩ := ba3 h
  obtain ⟨h1, h2⟩ := ba3 h
  refine ⟨by rw [c.hN]; exact of_decide_eq_true h1, c.loc h2, ?_⟩
  rw [Bool.or_eq_true] at h3
  rcases h3 with z | z
  · exact .inl (c.top z x)
  · refine .inr ?_
    rw [c.hsc]; exact of_decide_eq_true z
theorem nameIx_ok {C : Mc} {k : Nat} {X : Cx} {F : Fm} {W : WXt} (c : CxOk L T C k X F W) {i : Nat} {x : Str} {p : Pos} (h : nameIx C i (.Name x p) = true) : X.N[i]? = some x ∧ X.env.scope.names.lookup x = some .local := by
  have h : (decide (C.N[i]? = some x) && isLocal C.sc x) = true := h
  obtain ⟨h1, h2⟩ := ba3 h
  exact ⟨by rw [c.hN]; exact of_decide_eq_true h1, by rw [c.hsc]; exact of_decide_eq_true h2⟩
theorem lc_asg {C : Mc} {k : Nat} {X : Cx} {F : Fm} {W : WXt} {e : CE} {elt : Expr} {gens : List Comprehension} {scope : Scope} {lpos p pos : Pos} {x : Str} {i : Nat} (c : CxOk L T C k X F W) (h3 : mt L T e C (.e (.ListComp elt gens scope lpos)) = true) (q1 : X.N[i]? = some x) (hl : X.env.scope.names.lookup x = some .local)
    (hsw : swapsWith (.ListComp elt gens scope lpos) (some (.Name x p)) pos.line X.env = pure true) : PS X (.Assign [.Name x p] (.ListComp elt gens scope lpos) pos) (tAsg (tV F W (ev T C.ps e).f) (gName i)) := by
  cases e <;> first | (unfold mt at h3; contradiction) | skip
  rename_i own t it ifs el
  unfold mt at h3
  split at h3 <;> first | contradiction | skip
  rename_i own1 t1 it1 ifs1 e1 e' tg it' ifs' sc' pos' heq1 heq2
  cases heq1
  cases heq2
  obtain ⟨h, h8⟩ := ba3 h3
  obtain ⟨h, h7⟩ := ba3 h
  obtain ⟨h, h6⟩ := ba3 h
  obtain ⟨h, h5⟩ := ba3 h
  obtain ⟨h, h4⟩ := ba3 h
  obtain ⟨h, h3⟩ := ba3 h
  obtain ⟨h1, h2⟩ := ba3 h
  exact (lc_ok (pos := lpos) c h1 h2 h3 h4 h5 h6 h7 h8 (mt_ok it) (mt_ok ifs) (mt_ok el)).2 q1 hl hsw
theorem ms_ok : ∀ (cs : CS) (C : Mc) (a : Sr), ms L T cs C a = true → ∀ (k : Nat) (X : Cx) (F : Fm) (W : WXt), CxOk L T C k X F W → PassesOwn (model X.prog X.w) X.A X.env X.xe → ConcS X F W (evS T C.ps cs) a := by
  intro cs
  induction cs with
  | nil =>
    intro C ar h k X F W c hp
    unfold ms at h
    split at h <;> first | contradiction | skip
    exact snds_nil
  | pass =>
    intro C ar h k X F W c hp
    unfold ms at h
    split at h <;> first | contradiction | skip
    · exact snds_pass
    · exact snds_doc
  | brk =>
    intro C ar h k X F W c hp
    unfold ms at h
    split at h <;> first | contradiction | skip
    exact snds_brk
  | cont =>
    intro C ar h k X F W c hp
    unfold ms at h
    split at h <;> first | contradiction | skip
    exact snds_cont
  | retN =>
    intro C ar h k X F W c hp
    unfold ms at h
    split at h <;> first | contradiction | skip
    exact snds_retN
  | seq a b iha ihb =>
    intro C ar h k X F W c hp
    unfold ms at h
    split at h <;> first | contradiction | skip
    rename_i a1 b1 x xs heq
    cases heq
    obtain ⟨h1, h2⟩ := ba3 h
    exact snds_cons (iha _ _ h1 k X F W c hp) (ihb _ _ h2 k X F W c hp)
  | ex e =>
    intro C ar h k X F W c hp
    unfold ms at h
    split at h <;> first | contradiction | skip
    rename_i e1 e' pos heq
    cases heq
    obtain ⟨h, h3⟩ := ba3 h
    obtain ⟨h1, h2⟩ := ba3 h
    exact snds_ex (mt_ok _ _ _ h3 k X F W c).1 h1
  | asg t e =>
    intro C ar h k X F W c hp
    unfold ms at h
    split at h <;> first | contradiction | skip
    · rename_i i1 e1 x p elt gens scope lpos pos heq
      cases heq
      obtain ⟨h, h4⟩ := ba3 h
      obtain ⟨h, h3⟩ := ba3 h
      obtain ⟨h1, h2⟩ := ba3 h
      obtain ⟨q1, q2, q3⟩ := ctM_nm c h1
      have hm := (mt_ok _ _ _ h3 k X F W c).1
      cases hsw : swB X.env.scope x p scope lpos with
      | false =>
        rw [← c.ps]
        refine snds_nmS (by rw [c.ps]; exact hm.f) ?_ (by rw [c.hN]; exact c.nd) q1 q2 q3
        rw [swB_ok, hsw]
      | true =>
        rw [← c.hsc, hsw] at h4
        have hl : X.env.scope.names.lookup x = some .local := by simpa [isLocal] using h4
        have hsw' : swapsWith (.ListComp elt gens scope lpos) (some (.Name x p)) pos.line X.env = pure true := by rw [swB_ok, hsw]
        rw [← c.ps]
        refine snds_nmlc ?_
        rw [c.ps]
        exact lc_asg c h3 q1 hl hsw'
    · rename_i i1 e1 x p e' pos _ heq
      cases heq
      obtain ⟨h, h4⟩ := ba3 h
      obtain ⟨h, h3⟩ := ba3 h
      obtain ⟨h1, h2⟩ := ba3 h
      obtain ⟨q1, q2, q3⟩ := ctM_nm c h2
      rw [← c.ps]
      exact snds_nm (by rw [c.ps]; exact (mt_ok _ _ _ h4 k X F W c).1) h1 (by rw [c.hN]; exact c.nd) q1 q2 q3
    · rename_i ts1 e1 es n tpos vs k2 p2 pos heq
      cases heq
      obtain ⟨h, h4⟩ := ba3 h
      obtain ⟨h, h3⟩ := ba3 h
      obtain ⟨h1, h2⟩ := ba3 h
      have h4 := of_decide_eq_true h4
      rw [← c.hsc] at h4
      have hT := ctM_ok c _ _ h1
      rw [← c.ps]
      exact snds_tpt (by rw [c.ps]; exact (mt_ok _ _ _ h3 k X F W c).1) rfl (parN_ok h4) hT
    · rename_i ts1 e1 es n tpos e' pos _ heq
      cases heq
      obtain ⟨h, h4⟩ := ba3 h
      obtain ⟨h, h3⟩ := ba3 h
      obtain ⟨h1, h2⟩ := ba3 h
      have hT := ctM_ok c _ _ h2
      rw [← c.ps]
      exact snds_tp (by rw [c.ps]; exact (mt_ok _ _ _ h4 k X F W c).1) h1 hT
  | par is as =>
    intro C ar h k X F W c hp
    unfold ms at h
    split at h <;> first | contradiction | skip
    · rename_i i j as1 x px y py n tpos a b k2 p2 pos heq
      cases heq
      obtain ⟨h, h6⟩ := ba3 h
      obtain ⟨h, h5⟩ := ba3 h
      obtain ⟨h, h4⟩ := ba3 h
      obtain ⟨h, h3⟩ := ba3 h
      obtain ⟨h1, h2⟩ := ba3 h
      obtain ⟨a1, a2⟩ := nameIx_ok c h3
      obtain ⟨b1, b2⟩ := nameIx_ok c h4
      have h6 := of_decide_eq_true h6
      rw [← c.hsc] at h6
      have hA := mt_ok _ _ _ h5 k X F W c
      rw [← c.ps]
      rw [← c.ps] at hA
      refine snds_par (ps_par (c.calm h1) (by rw [c.hN]; exact c.nd) a1 b1 (of_decide_eq_true h2) a2 b2 hA.al (parN_ok h6)) fun Dn σ H hh => ?_
      refine tP.imp hh fun vs H1 q => ?_
      obtain ⟨hl, q⟩ := q
      match vs, hl, q with
      | [v, w], _, q => exact ⟨v, w, rfl, q⟩
    · rename_i i j l as1 x px y py z pz n tpos a b d k2 p2 pos heq
      cases heq
      obtain ⟨h, h9⟩ := ba3 h
      obtain ⟨h, h8⟩ := ba3 h
      obtain ⟨h, h7⟩ := ba3 h
      obtain ⟨h, h6⟩ := ba3 h
      obtain ⟨h, h5⟩ := ba3 h
      obtain ⟨h, h4⟩ := ba3 h
      obtain ⟨h, h3⟩ := ba3 h
      obtain ⟨h1, h2⟩ := ba3 h
      obtain ⟨a1, a2⟩ := nameIx_ok c h5
      obtain ⟨b1, b2⟩ := nameIx_ok c h6
      obtain ⟨d1, d2⟩ := nameIx_ok c h7
      have h9 := of_decide_eq_true h9
      rw [← c.hsc] at h9
      have hA := mt_ok _ _ _ h8 k X F W c
      rw [← c.ps]
      rw [← c.ps] at hA
      refine snds_par (ps_par3 (c.calm h1) (by rw [c.hN]; exact c.nd) a1 b1 d1 (of_decide_eq_true h2) (of_decide_eq_true h3) (of_decide_eq_true h4) a2 b2 d2 hA.al (parN_ok h9)) fun Dn σ H hh => ?_
      refine tP.imp hh fun vs H1 q => ?_
      obtain ⟨hl, q⟩ := q
      match vs, hl, q with
      | [v, w, u], _, q => exact ⟨v, w, u, rfl, q⟩
  | aug i op e =>
    intro C ar h k X F W c hp
    unfold ms at h
    split at h <;> first | contradiction | skip
    rename_i i1 op1 e1 x p op' e' pos heq
    cases heq
    obtain ⟨h, h4⟩ := ba3 h
    obtain ⟨h, h3⟩ := ba3 h
    obtain ⟨h1, h2⟩ := ba3 h
    have q := of_decide_eq_true h1
    subst q
    obtain ⟨q1, q2, q3⟩ := ctM_nm c h2
    rw [← c.ps]
    exact snds_aug (by rw [c.hN]; exact c.nd) q1 q2 q3 (by rw [c.ps]; exact (mt_ok _ _ _ h4 k X F W c).1)
  | set i ix e =>
    intro C ar h k X F W c hp
    unfold ms at h
    split at h <;> first | contradiction | skip
    rename_i i1 ix1 e1 x p ix' tpos e' pos heq
    cases heq
    obtain ⟨h, h6⟩ := ba3 h
    obtain ⟨h, h5⟩ := ba3 h
    obtain ⟨h, h4⟩ := ba3 h
    obtain ⟨h, h3⟩ := ba3 h
    obtain ⟨h1, h2⟩ := ba3 h
    obtain ⟨q1, q2, q3, q4⟩ := c.var h1
    exact snds_set q1 q2 q3 q4 (mt_ok _ _ _ h6 k X F W c).1 (mt_ok _ _ _ h4 k X F W c).1 h2
  | sau i ix op e =>
    intro C ar h k X F W c hp
    unfold ms at h
    split at h <;> first | contradiction | skip
    rename_i i1 ix1 op1 e1 x p ix' tpos op' e' pos heq
    cases heq
    obtain ⟨h, h6⟩ := ba3 h
    obtain ⟨h, h5⟩ := ba3 h
    obtain ⟨h, h4⟩ := ba3 h
    obtain ⟨h, h3⟩ := ba3 h
    obtain ⟨h, h2⟩ := ba3 h
    obtain ⟨h0, h1⟩ := ba3 h
    have q := of_decide_eq_true h0
    subst q
    obtain ⟨q1, q2, q3, q4⟩ := c.var h1
    exact snds_sau c.hK q1 q2 q3 q4 (mt_ok _ _ _ h6 k X F W c).1 (mt_ok _ _ _ h4 k X F W c).1 h2
  | fst i f e =>
    intro C ar h k X F W c hp
    unfold ms at h
    split at h <;> first | contradiction | skip
    rename_i i1 f1 e1 x p f' tpos e' pos heq
    cases heq
    obtain ⟨h, h5⟩ := ba3 h
    obtain ⟨h, h4⟩ := ba3 h
    obtain ⟨h, h3⟩ := ba3 h
    obtain ⟨h1, h2⟩ := ba3 h
    have q := of_decide_eq_true h1
    subst q
    obtain ⟨q1, q2, q3, q4⟩ := c.var h2
    have hc := c.law.fld _ (of_decide_eq_true h3)
    rw [c.hK] at hc
    exact snds_fst c.hK q1 q2 q3 q4 (mt_ok _ _ _ h5 k X F W c).1 hc
  | fau i f op e =>
    intro C ar h k X F W c hp
    unfold ms at h
    split at h <;> first | contradiction | skip
    rename_i i1 f1 op1 e1 x p f' tpos op' e' pos heq
    cases heq
    obtain ⟨h, h5⟩ := ba3 h
    obtain ⟨h, h4⟩ := ba3 h
    obtain ⟨h, h3⟩ := ba3 h
    obtain ⟨h, h2⟩ := ba3 h
    obtain ⟨h0, h1⟩ := ba3 h
    have q := of_decide_eq_true h0
    subst q
    have q := of_decide_eq_true h1
    subst q
    obtain ⟨q1, q2, q3, q4⟩ := c.var h2
    have hc := c.law.fld _ (of_decide_eq_true h3)
    rw [c.hK] at hc
    exact snds_fau c.hK q1 q2 q3 q4 (mt_ok _ _ _ h5 k X F W c).1 hc
  | ret e =>
    intro C ar h k X F W c hp
    unfold ms at h
    split at h <;> first | contradiction | skip
    rename_i e1 e' pos heq
    cases heq
    obtain ⟨h1, h2⟩ := ba3 h
    split at h1
    · obtain ⟨q1, q2, q3, q4⟩ := c.var h1
      rename_i i x p0
      exact snds_retvar (f := varF i) q1 q2 q3 q4
    · exact snds_ret (mt_ok _ _ _ h2 k X F W c).1 (ba3 h1).1
  | ite t a b iha ihb =>
    intro C ar h k X F W c hp
    unfold ms at h
    split at h <;> first | contradiction | skip
    rename_i t1 a1 b1 t' as bs pos heq
    cases heq
    obtain ⟨h, h4⟩ := ba3 h
    obtain ⟨h, h3⟩ := ba3 h
    obtain ⟨h1, h2⟩ := ba3 h
    exact snds_if (mt_ok _ _ _ h2 k X F W c).1 (iha _ _ h3 k X F W c hp) (ihb _ _ h4 k X F W c hp)
  | for_ t it b ihb =>
    intro C ar h k X F W c hp
    unfold ms at h
    split at h <;> first | contradiction | skip
    rename_i t1 it1 b1 tg it' bs pos heq
    cases heq
    obtain ⟨h, h4⟩ := ba3 h
    obtain ⟨h, h3⟩ := ba3 h
    obtain ⟨h1, h2⟩ := ba3 h
    rw [← c.ps]
    refine snds_for hp (c.calm h1) (A := ev T F.ps it) ?_ (ctM_ok c _ _ h2) (by rw [c.ps]; exact ihb _ _ h4 k X F W c hp)
    rw [c.ps]
    split at h3
    · rename_i hv
      obtain ⟨q1, q2⟩ := ba3 h3
      exact sndi_of c.hK hv (mt_ok _ _ _ q2 k X F W c).1.f q1
    · exact mt_ok _ _ _ h3 k X F W c
  | while_ t b ihb =>
    intro C ar h k X F W c hp
    unfold ms at h
    split at h <;> first | contradiction | skip
    rename_i t1 b1 t' bs pos heq
    cases heq
    obtain ⟨h, h4⟩ := ba3 h
    obtain ⟨h1, h2⟩ := ba3 h
    exact snds_while hp (mt_ok _ _ _ h2 k X F W c).1 (ihb _ _ h4 k X F W c hp)
  | raise j as =>
    intro C ar h k X F W c hp
    unfold ms at h
    contradiction
  | try_ b j hh ihb ihh =>
    intro C ar h k X F W c hp
    unfold ms at h
    contradiction
end
end Ev
end
section
set_option Elab.async false
set_option linter.all false
set_option maxRecDepth 100000
set_option maxHeartbeats 8000000
set_option autoImplicit false
namespace Ev
open PySem PySem.Spec PyProof.Rows L2

/-- a def of the text: its slots' names, its parameters, body, scope -/
structure Dt where
  d : Def
  N : List Str
  prm : List Str
  body : List Stmt
  scope : Scope
def Dt.mc (t : Dt) : Mc := ⟨t.N, t.scope, true, true, t.d.ps⟩
/-- what the kernel is asked of each def -/
def Dt.ok (L : Lw) (T : Tb) (t : Dt) : Bool :=
  decide (t.d.io.length = t.d.np) && decide (t.N.length = t.d.ns) && decide (t.d.np ≤ t.d.ns) && decide (t.prm.length = t.d.np) && decide (t.scope.kind = .function) && !t.scope.isCoroutine && !t.scope.isGenerator && decide (t.N.Nodup) && decide (t.N.take t.prm.length = t.prm) &&
    (t.prm.all fun x => locB t.scope x) && (t.scope.names.all fun y => decide (y.2 ≠ .free)) && ms L T t.d.body t.mc (.l t.body)
theorem Dt.scopeOk {L : Lw} {T : Tb} {t : Dt} (h : t.ok L T = true) : FnScope t.N t.prm t.scope := by
  unfold Dt.ok at h
  simp only [Bool.and_eq_true, decide_eq_true_eq, Bool.not_eq_true', List.all_eq_true] at h
  obtain ⟨⟨⟨⟨⟨⟨⟨⟨⟨⟨⟨h1, h2⟩, h3⟩, h4⟩, h5⟩, h6⟩, h7⟩, h8⟩, h9⟩, h10⟩, h11⟩, h12⟩ := h
  refine ⟨h5, h6, h7, h8, h9, fun x hx => ?_, fun y hy => h11 y hy⟩
  have q := h10 x hx
  unfold locB at q
  split at q <;> first | exact .inl (by assumption) | exact .inr (by assumption) | cases q
/-- the tables, one def after another -/
structure Sys where
  defs : List Dt
  con : Str → D
def Sys.io (S : Sys) (j : Nat) : List Bool := match S.defs[j]? with
  | some t => t.d.io
  | none => []
def Sys.tb (S : Sys) : Nat → Tb
  | 0 => ⟨0, fun _ _ => .bad, S.io, S.con⟩
  | n + 1 => ⟨n + 1, fun j => if j = n then (match S.defs[n]? with
      | some t => runDef (S.tb n) t.d
      | none => fun _ => .bad) else (S.tb n).run j, S.io, S.con⟩
theorem Sys.tb_n (S : Sys) : ∀ n, (S.tb n).n = n
  | 0 => rfl
  | n + 1 => rfl
theorem Sys.tb_io (S : Sys) : ∀ n, (S.tb n).io = S.io
  | 0 => rfl
  | n + 1 => rfl
theorem Sys.tb_con (S : Sys) : ∀ n, (S.tb n).con = S.con
  | 0 => rfl
  | n + 1 => rfl
section
variable {P : Program} {w : World} {K : PySem.W.Frag} {mg : Str → Option Value} {base : Heap} {c : Ct} {L : Lw}
/-- a def's body does as its evaluation says -/
theorem fn_rule {T : Tb} {t : Dt} {k : Nat} {x qual : Str} {params : Arguments} {dvs : List V} {kws : List (Str × V)} {f : Addr} {fd : FuncData} (hK : K = c.K) (FD : FunD K x qual params t.body t.scope dvs kws f fd) (hk : t.ok L T = true) (law : LawOk K mg c L T) (fn : ∀ j, j < T.n → FnHas P w K mg base c T k j) :
    FnG P w K mg base (L2.CX P w) (k + 2) f fd t.prm (spOf c t.d t.N (runDef T t.d)) := by
  have S := Dt.scopeOk hk
  have hk' := hk
  unfold Dt.ok at hk'
  simp only [Bool.and_eq_true, decide_eq_true_eq, Bool.not_eq_true', List.all_eq_true] at hk'
  obtain ⟨⟨⟨⟨⟨⟨⟨⟨⟨⟨⟨h1, h2⟩, h3⟩, h4⟩, h5⟩, h6⟩, h7⟩, h8⟩, h9⟩, h10⟩, h11⟩, h12⟩ := hk'
  refine fng_of FD S (fun vs H Q E h => by rw [h.1, h4]) fun cdv A outer s H vs Q E hgd hr h => ?_
  obtain ⟨hv, G, ds, as, fp, hd, hl, E0, hend⟩ := h
  refine ⟨tSt ⟨c, H, G, as, t.d.ps⟩ (fun cls dd _ H => E cls dd H) (evS T t.d.ps t.d.body), ?_, ?_⟩
  · refine ms_ok t.d.body t.mc (.l t.body) h12 k _ _ _ ⟨hK, rfl, h8, rfl, fun _ => rfl, fun _ _ => rfl, law, fn, hr, hgd, ?_, hl, rfl⟩ ?_
    · exact takes_of rfl rfl rfl rfl
    · exact passes_of (K := fun e s'' => L2.CX P w outer H s E e s'') rfl
  · refine ⟨G, startR t.d ds, fp, E0, ?_⟩
    unfold runDef at hend
    rw [if_pos hd] at hend
    cases e : evS T t.d.ps t.d.body (startR t.d ds) with
    | nx ρ' =>
      rw [e] at hend
      exact fun G' H' σ' fp' ad E' => hend G' H' σ' ρ' fp' .non E' rfl (ResR.of (by simp only [RepF]))
    | rt r l ρ' =>
      rw [e] at hend
      exact fun G' H' σ' fp' v ad E' rr => hend G' H' σ' ρ' fp' v E' rfl rr
    | exc y ρ' =>
      rw [e] at hend
      exact fun G' H' σ' fp' cls dd ad E' rr => hend G' H' σ' ρ' fp' cls dd E' rfl rr
    | bk ρ' => rw [e] at hend; exact hend.elim
    | ct ρ' => rw [e] at hend; exact hend.elim
    | bad => rw [e] at hend; exact hend.elim
/-- what the head tells of def j -/
def DefAt (K : PySem.W.Frag) (c : Ct) (j : Nat) (t : Dt) : Prop := ∃ (x qual : Str) (params : Arguments) (dvs : List V) (kws : List (Str × V)) (fd : FuncData), FunD K x qual params t.body t.scope dvs kws (c.fa j) fd ∧ Binds K fd t.prm []
theorem FnHas.up {T T' : Tb} {k k' j : Nat} (h : FnHas P w K mg base c T k j) (hk : k ≤ k') (hr : T'.run j = T.run j) (hi : T'.io = T.io) : FnHas P w K mg base c T' k' j := by
  obtain ⟨fd, prm, d, N, h1, h2, h3, h4, h5⟩ := h.ex
  exact ⟨fd, prm, d, N, by rw [hr]; exact h1.up hk, h2, h3, by rw [hi]; exact h4, h5⟩
theorem sys_ok {S : Sys} (hK : K = c.K) (law : ∀ n, LawOk K mg c L (S.tb n)) : ∀ n, n ≤ S.defs.length → (∀ j t, j < n → S.defs[j]? = some t → DefAt K c j t) → (∀ j t, j < n → S.defs[j]? = some t → t.ok L (S.tb j) = true) → ∀ j, j < n → FnHas P w K mg base c (S.tb n) (2 * n) j := by
  intro n
  induction n with
  | zero => intro _ _ _ j hj; omega
  | succ n ih =>
    intro hn hd hk j hj
    have ih := ih (by omega) (fun j t hj => hd j t (by omega)) (fun j t hj => hk j t (by omega))
    by_cases e : j = n
    · subst e
      have ht : S.defs[j]? = some S.defs[j] := List.getElem?_eq_getElem (by omega)
      obtain ⟨x, qual, params, dvs, kws, fd, FD, hb⟩ := hd j _ (by omega) ht
      have hok := hk j _ (by omega) ht
      have R := fn_rule (P := P) (w := w) (mg := mg) (base := base) hK FD hok (law j) (k := 2 * j) (by rw [S.tb_n]; exact ih)
      have hrun : (S.tb (j + 1)).run j = runDef (S.tb j) S.defs[j].d := by
        show (if j = j then _ else _) = _
        rw [if_pos rfl, ht]
      unfold Dt.ok at hok
      simp only [Bool.and_eq_true, decide_eq_true_eq] at hok
      refine ⟨fd, _, S.defs[j].d, S.defs[j].N, by rw [hrun]; exact R, FD.kp, hb, ?_, hok.1.1.1.1.1.1.1.1.1.1.1, hok.1.1.1.1.1.1.1.1.1.1.2, hok.1.1.1.1.1.1.1.1.1.2⟩
      rw [S.tb_io]
      unfold Sys.io
      rw [ht]
    · exact (ih j (by omega)).up (by omega) (by show (if j = n then _ else _) = _; rw [if_neg e]) (by rw [S.tb_io, S.tb_io])
end
end Ev
end
section
set_option Elab.async false
set_option linter.all false
set_option maxRecDepth 100000
set_option maxHeartbeats 4000000
set_option autoImplicit false
namespace Ev
open PySem PySem.Spec PyProof.Rows L2
/-- what a head is told to look at, and the tables of the law -/
structure Hd where
  gl : List Str
  fr : List Str
  strC : List (Str × Str)
  intC : List (Str × Int)
  tupC : List (Str × List He.Dv)
  clN : List Str
  noatP : List (Str × Str)
  methP : List (Str × Str)
  mkrN : List Str
  fn : List He.DefD
  qs : List (Def × List Str × List Str)
  con : Str → D
  L : Lw
def Hd.fa (h : Hd) : List He.Fa := h.gl.map .glo ++ (h.fr.map .free ++ (h.strC.map (fun p => .str p.1 p.2) ++ (h.intC.map (fun p => .int p.1 p.2) ++ (h.clN.map .cls ++ (h.noatP.map (fun p => .noat p.1 p.2) ++ (h.methP.map (fun p => .meth p.1 p.2) ++ h.mkrN.map .mkr))))))
def Hd.ex (h : Hd) (K : PySem.W.Frag) : Bool := h.tupC.all fun p => He.tupB K p.1 p.2
def Hd.dts (h : Hd) : List Dt := List.zipWith (fun d q => ⟨q.1, q.2.1, q.2.2, d.body, d.scope⟩) h.fn h.qs
def Hd.sys (h : Hd) : Sys := ⟨h.dts, h.con⟩
def Hd.ct (h : Hd) (K : PySem.W.Frag) : Ct := ⟨K, fun j => match h.fn[j]? with
  | some d => He.fAd K d.at_
  | none => 0, fun k => He.ga K (h.clN.getD k (h.clN.headD Str.empty))⟩
def dvsEq : List He.Dv → List D → Bool
  | [], [] => true
  | .str z :: r, .str z' :: r' => decide (z = z') && dvsEq r r'
  | .int z :: r, .int z' :: r' => decide (z = z') && dvsEq r r'
  | _, _ => false
def Hd.chk (h : Hd) : Bool :=
  (h.L.fns.all fun p => decide (p.1 ∈ h.gl) && decide ((h.fn[p.2]?).map (·.at_) = some (p.1, none))) &&
  (h.L.cls.all fun p => decide (p.1 ∈ h.gl) && decide (h.clN[p.2]? = some p.1)) &&
  (h.L.inits.all fun p => match h.clN[p.1]? with
    | some x => decide (x ∈ h.mkrN) && decide ((h.fn[p.2]?).map (·.at_) = some (x, some (Str.ofString "__init__")))
    | none => false) &&
  (h.L.cons.all fun x => match h.con x with
    | .str z => decide ((x, z) ∈ h.strC)
    | .int i => decide ((x, i) ∈ h.intC)
    | .tup ds => decide (x ∈ h.gl) && (h.tupC.any fun p => decide (p.1 = x) && dvsEq p.2 ds)
    | _ => false) &&
  (h.L.free.all fun x => decide (x ∈ h.fr)) &&
  (h.L.meths.all fun p => match h.clN[p.1]? with
    | some x => decide ((x, p.2.1) ∈ h.methP) && decide ((h.fn[p.2.2]?).map (·.at_) = some (x, some p.2.1))
    | none => false) &&
  (h.L.flds.all fun f => !h.clN.isEmpty && h.clN.all fun x => decide ((x, f) ∈ h.noatP))
theorem mem_of_lk {α β : Type} [BEq α] [LawfulBEq α] {a : α} {b : β} : ∀ {l : List (α × β)}, l.lookup a = some b → (a, b) ∈ l
  | (k, v) :: l, h => by
    rw [List.lookup_cons] at h
    cases q : a == k with
    | true =>
      rw [q] at h
      have e := eq_of_beq q
      cases h
      rw [e]; exact List.mem_cons_self
    | false => rw [q] at h; exact List.mem_cons_of_mem _ (mem_of_lk h)
section
variable {hd : Hd} {K : PySem.W.Frag} {h : Heap} {mg : Str → Option Value}
theorem ct_fa {j : Nat} {p : Str × Option Str} (e : (hd.fn[j]?).map (·.at_) = some p) : (hd.ct K).fa j = He.fAd K p := by
  show (match hd.fn[j]? with
    | some d => He.fAd K d.at_
    | none => 0) = _
  cases q : hd.fn[j]? with
  | none => rw [q] at e; cases e
  | some d => rw [q] at e; cases e; rfl
theorem ct_ca {k : Nat} {x : Str} (e : hd.clN[k]? = some x) : (hd.ct K).ca k = He.ga K x := by
  show He.ga K (hd.clN.getD k _) = _
  rw [List.getD_eq_getElem?_getD, e]; rfl
theorem dvs_rep {c : Ct} {G : Hp} {K : PySem.W.Frag} : ∀ {vs : List He.Dv} {ds : List D}, dvsEq vs ds = true → RepFs c G ds (vs.map (He.Dv.v K))
  | [], [], _ => by simp only [List.map_nil, RepFs]
  | v :: vs, d :: ds, e => by
    cases v <;> cases d <;> first | (cases e; done) | skip
    · simp only [dvsEq, Bool.and_eq_true, decide_eq_true_eq] at e
      obtain ⟨rfl, e⟩ := e
      simp only [List.map_cons, RepFs, RepF]
      exact ⟨_, _, rfl, rfl, dvs_rep e⟩
    · simp only [dvsEq, Bool.and_eq_true, decide_eq_true_eq] at e
      obtain ⟨rfl, e⟩ := e
      simp only [List.map_cons, RepFs, RepF]
      exact ⟨_, _, rfl, rfl, dvs_rep e⟩
  | [], _ :: _, e => by cases e
  | v :: _, [], e => by cases v <;> cases e
theorem law_of (X : K.In h) (G : h.Ns mainGlobals mg) (c : He.SaysD hd.fa hd.fn K) (ex : hd.ex K = true) (ok : hd.chk = true) (T : Tb) (hT : T.con = hd.con) : LawOk K mg (hd.ct K) hd.L T := by
  unfold Hd.chk at ok
  simp only [Bool.and_eq_true, List.all_eq_true] at ok
  obtain ⟨⟨⟨⟨⟨⟨o1, o2⟩, o3⟩, o4⟩, o5⟩, o6⟩, o7⟩ := ok
  have glo : ∀ x, x ∈ hd.gl → mg x = some (.ref (He.ga K x)) := fun x hx => He.glo_ok X G (c.facts (f := .glo x) (by unfold Hd.fa; simp only [List.mem_append, List.mem_map]; exact .inl ⟨x, hx, rfl⟩))
  refine ⟨fun x j e => ?_, fun x k e => ?_, fun k j e => ?_, fun x e => ?_, fun x e => ?_, fun k m j e => ?_, fun f e k => ?_⟩
  · have := o1 _ (mem_of_lk e)
    simp only [decide_eq_true_eq] at this
    rw [ct_fa this.2]
    exact glo x this.1
  · have := o2 _ (mem_of_lk e)
    simp only [decide_eq_true_eq] at this
    rw [ct_ca this.2]
    exact glo x this.1
  · have := o3 _ e
    simp only at this
    split at this
    · rename_i x q
      simp only [Bool.and_eq_true, decide_eq_true_eq] at this
      rw [ct_ca q, ct_fa this.2]
      exact He.mkr_ok (c.facts (f := .mkr x) (by unfold Hd.fa; simp only [List.mem_append, List.mem_map]; exact .inr (.inr (.inr (.inr (.inr (.inr (.inr ⟨x, this.1, rfl⟩))))))))
    · cases this
  · have := o4 _ e
    rw [hT]
    split at this
    · rename_i z q
      rw [q]
      simp only [decide_eq_true_eq] at this
      obtain ⟨t, ht⟩ := He.str_ok X G (c.facts (f := .str x z) (by unfold Hd.fa; simp only [List.mem_append, List.mem_map]; exact .inr (.inr (.inl ⟨_, this, rfl⟩))))
      exact ⟨.str z, _, ht, ⟨t, rfl⟩, fun G => by simp only [RepF]⟩
    · rename_i z q
      rw [q]
      simp only [decide_eq_true_eq] at this
      obtain ⟨t, ht⟩ := He.int_ok X G (c.facts (f := .int x z) (by unfold Hd.fa; simp only [List.mem_append, List.mem_map]; exact .inr (.inr (.inr (.inl ⟨_, this, rfl⟩)))))
      exact ⟨.int z, _, ht, ⟨t, rfl⟩, fun G => by simp only [RepF]⟩
    · rename_i ds q
      rw [q]
      simp only [Bool.and_eq_true, decide_eq_true_eq, List.any_eq_true] at this
      obtain ⟨h1, ⟨x', dvs⟩, h2, h3, h4⟩ := this
      simp only at h3 h4
      subst h3
      have hb := List.all_eq_true.mp ex _ h2
      refine ⟨.ref (He.ga K x'), _, glo _ h1, rfl, fun G => ?_⟩
      simp only [RepF]
      exact ⟨_, _, rfl, He.tupB_ok hb G, dvs_rep h4⟩
    · cases this
  · have := o5 _ e
    simp only [decide_eq_true_eq] at this
    exact He.free_ok X G (c.facts (f := .free x) (by unfold Hd.fa; simp only [List.mem_append, List.mem_map]; exact .inr (.inl ⟨x, this, rfl⟩)))
  · have := o6 _ e
    simp only at this
    split at this
    · rename_i x q
      simp only [Bool.and_eq_true, decide_eq_true_eq] at this
      rw [ct_ca q, ct_fa this.2]
      exact ⟨He.cls_ok (c.facts (f := .cls x) (by unfold Hd.fa; simp only [List.mem_append, List.mem_map]; exact .inr (.inr (.inr (.inr (.inl ⟨x, List.mem_of_getElem? q, rfl⟩)))))),
        He.meth_ok (c.facts (f := .meth x m) (by unfold Hd.fa; simp only [List.mem_append, List.mem_map]; exact .inr (.inr (.inr (.inr (.inr (.inr (.inl ⟨_, this.1, rfl⟩)))))))) ⟩
    · cases this
  · have := o7 _ e
    obtain ⟨h1, h2⟩ := this
    have hm : hd.clN.getD k (hd.clN.headD Str.empty) ∈ hd.clN := by
      rw [List.getD_eq_getElem?_getD]
      cases q : hd.clN[k]? with
      | some x => exact List.mem_of_getElem? q
      | none =>
        cases q2 : hd.clN with
        | nil => rw [q2] at h1; cases h1
        | cons y ys => exact List.mem_cons_self
    have h3 := h2 _ hm
    simp only [decide_eq_true_eq] at h3
    exact ⟨He.cls_ok (c.facts (f := .cls _) (by unfold Hd.fa; simp only [List.mem_append, List.mem_map]; exact .inr (.inr (.inr (.inr (.inl ⟨_, hm, rfl⟩)))))),
      He.noat_ok (c.facts (f := .noat _ f) (by unfold Hd.fa; simp only [List.mem_append, List.mem_map]; exact .inr (.inr (.inr (.inr (.inr (.inl ⟨_, h3, rfl⟩)))))))⟩
/-- how a def's parameters are bound -/
def BindOk (d : He.DefD) (prm : List Str) : Prop := d.dfl = [] ∧ ∀ (kV doc pm : Value) (an : Option Addr) (cdv ct : Value) (us : List Value), us.length = prm.length → bindArgs (PySem.W.fnOf d.name d.qual d.params d.body d.scope .none kV doc pm an cdv ct) ⟨us, []⟩ = pure (prm.zip us)
theorem defAt_of (c : He.SaysD hd.fa hd.fn K) (hb : ∀ p ∈ hd.fn.zip hd.qs, BindOk p.1 p.2.2.2) {j : Nat} {t : Dt} (e : hd.sys.defs[j]? = some t) : DefAt K (hd.ct K) j t := by
  have e : (List.zipWith (fun (d : He.DefD) (q : Def × List Str × List Str) => (⟨q.1, q.2.1, q.2.2, d.body, d.scope⟩ : Dt)) hd.fn hd.qs)[j]? = some t := e
  rw [List.getElem?_zipWith] at e
  split at e
  · rename_i d q h1 h2
    cases e
    obtain ⟨fd, FD⟩ := c.def_ j h1
    obtain ⟨hd0, hbo⟩ := hb (d, q) (List.mem_of_getElem? (i := j) (List.getElem?_zip_eq_some.mpr ⟨h1, h2⟩))
    have e0 : d.dvs K = [] := by unfold He.DefD.dvs; rw [hd0]; rfl
    rw [e0] at FD
    refine ⟨d.name, d.qual, d.params, [], d.kws K, fd, ?_, ?_⟩
    · rw [ct_fa (p := d.at_) (by rw [h1]; rfl)]; exact FD
    · exact FunD.bindsN FD hbo
  · cases e
/-- the law's promise, from its evaluation -/
theorem law_fn {P : Program} {w : World} (X : K.In h) (G : h.Ns mainGlobals mg) (c : He.SaysD hd.fa hd.fn K) (ex : hd.ex K = true) (ok : hd.chk = true) (hb : ∀ p ∈ hd.fn.zip hd.qs, BindOk p.1 p.2.2.2) (hk : ∀ (j : Nat) (t : Dt), hd.sys.defs[j]? = some t → t.ok hd.L (hd.sys.tb j) = true)
    (base : Heap) (m : Nat) (hm : m ≤ hd.sys.defs.length) : ∀ j, j < m → FnHas P w K mg base (hd.ct K) (hd.sys.tb m) (2 * m) j :=
  sys_ok (S := hd.sys) (K := K) (c := hd.ct K) rfl (fun n => law_of X G c ex ok _ (hd.sys.tb_con n)) m hm (fun j t _ e => defAt_of c hb e) (fun j t _ e => hk j t e)
end
/-! ### the hook -/
abbrev AlE : Type := He.AlD × Bool
def obE (hd : Hd) (g : Addr → Option Obj) : AlE := (He.obsDG 4 hd.fa hd.fn g, hd.ex (He.frG g (He.asD g 4)))
def hkE (hd : Hd) : PySem.W.Hook where
  α := AlE
  obs := fun s => obE hd s.heap.get?
  val := fun _ => (He.valD hd.fn, true)
  says := fun _ h => ∃ K : PySem.W.Frag, K.In h ∧ He.SaysD hd.fa hd.fn K ∧ hd.ex K = true
  of := fun _ _ e => ⟨_, He.frG_in, congrArg (fun z : AlE => z.1) e, congrArg (fun z : AlE => z.2) e⟩
  keeps := fun _ _ _ ⟨K, hK, c⟩ k => ⟨K, PySem.W.Frag.In.keeps hK k, c⟩
def obT (hd : Hd) (s : PySem.W.SharedT) : AlE := obE hd (HandSHeadRun.getT s)
theorem obT_eq (hd : Hd) (s : PySem.W.SharedT) : obT hd s = (hkE hd).obs s.abs := by
  have e : HandSHeadRun.getT s = s.abs.heap.get? := funext (HandSHeadRun.getT_eq s)
  show obE hd (HandSHeadRun.getT s) = obE hd s.abs.heap.get?
  rw [e]
/-- a law that gives True whatever the script -/
def Tells (hd : Hd) (m : Nat) (td : Dt) : Prop := td.d.np = 1 ∧ td.d.io = [false] ∧ td.d.ns = td.N.length ∧ ∀ ns : List Int, ∃ outs, runDef (hd.sys.tb m) td.d [.scr ns] = .ok (.bl true) 0 outs
theorem sp_law {c : Ct} {td : Dt} {T : Tb} (h1 : td.d.np = 1) (h2 : td.d.io = [false]) (h3 : td.d.ns = td.N.length) (hs : 1 ≤ td.d.ns) (ht : ∀ ns : List Int, ∃ outs, runDef T td.d [.scr ns] = .ok (.bl true) 0 outs) (H : Hp) (a : Addr) (ns : List Int) (hS : SqL c.K H a (ns.map V.int)) :
    spOf c td.d td.N (runDef T td.d) [.ref a] H (fun v _ => v = .bl true) fun _ _ _ => False := by
  have hps : td.d.ps = [] := by unfold Def.ps; rw [h1, h2]; rfl
  refine ⟨h1.symm, H, [.scr ns], [], fun _ => [], h1.symm, by rw [hps] <;> rfl, ⟨Same.refl _, Same.refl _, fun _ _ e _ => e, fun _ _ e => .inl e, fun i d l e => ?_, fun _ _ => rfl, fun _ => List.nodup_nil, fun _ _ _ z => (nomatch z), fun _ _ z => (nomatch z), fun k p b z => ?_, ?_⟩, ?_⟩
  · obtain ⟨b, hi, hx, hb, rfl⟩ := startR_get (by rw [h1, h2]; rfl) (by rw [h1]; rfl) e
    have hi0 : i = 0 := by omega
    subst hi0
    cases hx
    rw [h2] at hb
    cases hb
    exact ⟨.ref a, start_get rfl, rfl, by simp only [RepF]; exact ⟨a, rfl, hS⟩⟩
  · have z : td.d.ps[k]? = some p := z
    rw [hps] at z
    cases z
  · unfold startR L2.start
    rw [List.length_append, List.length_append, List.length_map, List.length_zip, List.length_replicate, List.length_map, List.length_replicate, h2, h3]
    simp
  · obtain ⟨outs, e⟩ := ht ns
    rw [e]
    intro G' H' σ' ρ' fp' v E' _ r
    obtain ⟨q, ⟨_, r⟩, _⟩ := r
    simpa only [RepF] using r
/-- the law's def, ready for its end -/
theorem law_end {hd : Hd} {K : PySem.W.Frag} {h : Heap} {mg : Str → Option Value} {P : Program} {w : World} {fa : Addr} {j : Nat} {td : Dt} {x : Str} (X : K.In h) (G : h.Ns mainGlobals mg) (c : He.SaysD hd.fa hd.fn K) (ex : hd.ex K = true) (ok : hd.chk = true) (hb : ∀ p ∈ hd.fn.zip hd.qs, BindOk p.1 p.2.2.2)
    (hk : ∀ (j : Nat) (t : Dt), hd.sys.defs[j]? = some t → t.ok hd.L (hd.sys.tb j) = true) (ht : hd.sys.defs[j]? = some td) (hl : hd.L.fns.lookup (Str.ofString "law") = some j) (hp : td.prm = [x]) (h2 : td.d.io = [false]) (h3 : td.d.ns = td.N.length) (h4 : 1 ≤ td.d.ns)
    (tells : ∀ ns : List Int, ∃ outs, runDef (hd.sys.tb j) td.d [.scr ns] = .ok (.bl true) 0 outs) (hmg : mg (Str.ofString "law") = some (.ref fa)) :
    ∃ (fd : FuncData) (prm : List Str) (sp : Sp), (∀ (s : Shared) (u : Value), BindsTo s fd ⟨[u], []⟩ [(x, u)]) ∧ (∀ (H : Hp) (a : Addr) (ns : List Int), SqL K H a (ns.map V.int) → sp [.ref a] H (fun v _ => v = .bl true) fun _ _ _ => False) ∧
      ∀ base : Heap, K.In base → base.Ns mainGlobals mg → FnG P w K mg base (L2.CX P w) (2 * j + 2) fa fd [x] sp := by
  have hj : j < hd.sys.defs.length := (List.getElem?_eq_some_iff.mp ht).1
  have L := law_of (hd := hd) X G c ex ok (hd.sys.tb j) (hd.sys.tb_con j)
  have hfa := L.fn _ _ hl
  rw [hmg] at hfa
  have e1 : fa = (hd.ct K).fa j := by cases hfa; rfl
  subst e1
  have hok := hk j td ht
  have hq : ∃ d q, hd.fn[j]? = some d ∧ hd.qs[j]? = some q ∧ td = ⟨q.1, q.2.1, q.2.2, d.body, d.scope⟩ := by
    have e : (List.zipWith (fun (d : He.DefD) (q : Def × List Str × List Str) => (⟨q.1, q.2.1, q.2.2, d.body, d.scope⟩ : Dt)) hd.fn hd.qs)[j]? = some td := ht
    rw [List.getElem?_zipWith] at e
    split at e
    · rename_i d q z1 z2
      exact ⟨d, q, z1, z2, (Option.some.inj e).symm⟩
    · cases e
  obtain ⟨d, q, g1, g2, rfl⟩ := hq
  obtain ⟨fd, FD⟩ := c.def_ j g1
  obtain ⟨hd0, hbo⟩ := hb (d, q) (List.mem_of_getElem? (i := j) (List.getElem?_zip_eq_some.mpr ⟨g1, g2⟩))
  have e0 : d.dvs K = [] := by unfold He.DefD.dvs; rw [hd0]; rfl
  rw [e0, ← ct_fa (hd := hd) (p := d.at_) (by rw [g1]; rfl)] at FD
  simp only at hp h2 h3 h4 tells
  have hbo' := FunD.bindsA FD hbo
  have hnp : q.1.np = 1 := by
    unfold Dt.ok at hok
    simp only [Bool.and_eq_true, decide_eq_true_eq] at hok
    have := hok.1.1.1.1.1.1.1.1.2
    rw [hp] at this
    exact this.symm
  refine ⟨fd, q.2.2, spOf (hd.ct K) q.1 q.2.1 (runDef (hd.sys.tb j) q.1), fun s u => ?_, fun H a ns hS => sp_law (td := ⟨q.1, q.2.1, q.2.2, d.body, d.scope⟩) hnp h2 h3 h4 tells H a ns hS, fun base hbK hbN => ?_⟩
  · have := hbo' s [u] (by rw [hp]; rfl)
    rw [hp] at this
    exact this
  · have fns := law_fn (P := P) (w := w) X G c ex ok hb hk base j (Nat.le_of_lt hj)
    have R := fn_rule (P := P) (w := w) (mg := mg) (base := base) (K := K) (c := hd.ct K) (L := hd.L) (T := hd.sys.tb j) (t := ⟨q.1, q.2.1, q.2.2, d.body, d.scope⟩) (k := 2 * j) rfl FD hok L (by rw [hd.sys.tb_n]; exact fns)
    rw [← hp]
    exact R
end Ev
end
section
set_option Elab.async false
set_option linter.all false
set_option maxRecDepth 100000
set_option maxHeartbeats 4000000
set_option autoImplicit false
namespace EvL
open PySem PySem.Spec L2 Ev

def con (x : Str) : D :=
  if x = (Str.ofString "LETTERS") then (.str (Str.ofString "abcdefghijklmnopqrstuvwxyz")) else
  if x = (Str.ofString "DIGITS") then (.str (Str.ofString "0123456789")) else
  if x = (Str.ofString "MOST_SIGNS") then (.int 8) else
  if x = (Str.ofString "MOST_STATES") then (.int 4) else
  if x = (Str.ofString "MOST_ANSWER") then (.int 9) else
  if x = (Str.ofString "ASKS") then (.tup [(.str (Str.ofString "answers")), (.str (Str.ofString "moments")), (.str (Str.ofString "counts"))]) else
  if x = (Str.ofString "RESERVED") then (.tup [(.str (Str.ofString "answers")), (.str (Str.ofString "asks")), (.str (Str.ofString "counts")), (.str (Str.ofString "end")), (.str (Str.ofString "event")), (.str (Str.ofString "fold")), (.str (Str.ofString "moments")), (.str (Str.ofString "of")), (.str (Str.ofString "past")), (.str (Str.ofString "states")), (.str (Str.ofString "tells"))]) else
  .non
def p0_0 : CE := (.blt .abs (.cons (.var 1) .nil))
def p0_1 : CE := (.lc [1] (.nm 1) (.slc (.var 0) .nil (.int 63)) .nil p0_0)
/- 0: _law_bag(script) slots ['script', 'cell'] -/
def d0 : Def := ⟨1, 2, [false],
    (.seq (.ret (.lst (.cons (.int 0) (.cons (.int 1234567891) (.cons (.int 0) (.cons p0_1 .nil))))))
    .nil)⟩
/- 1: _law_shape_takes() slots ['asks', 'found'] -/
def d1 : Def := ⟨0, 2, [],
    (.seq (.asg (.nm 0) (.tup (.cons (.str (Str.ofString "answers")) (.cons (.str (Str.ofString "moments")) (.cons (.str (Str.ofString "counts")) .nil)))))
    (.seq (.asg (.nm 1) (.lst (.cons (.tup (.cons (.str (Str.ofString "fold")) (.cons (.lst (.cons (.tup (.cons (.str (Str.ofString "word")) (.cons (.str (Str.ofString "fold ")) .nil))) (.cons (.tup (.cons (.str (Str.ofString "name")) .nil)) .nil))) .nil))) (.cons (.tup (.cons (.str (Str.ofString "states")) (.cons (.lst (.cons (.tup (.cons (.str (Str.ofString "word")) (.cons (.str (Str.ofString "states ")) .nil))) (.cons (.tup (.cons (.str (Str.ofString "count")) (.cons (.int 1) (.cons (.int 4) .nil)))) .nil))) .nil))) .nil))))
    (.seq (.ex (.mut .append 1 (.cons (.tup (.cons (.str (Str.ofString "event")) (.cons (.lst (.cons (.tup (.cons (.str (Str.ofString "word")) (.cons (.str (Str.ofString "event ")) .nil))) (.cons (.tup (.cons (.str (Str.ofString "name")) .nil)) (.cons (.tup (.cons (.str (Str.ofString "row")) (.cons (.int 4) (.cons (.int 0) (.cons (.int 3) .nil))))) .nil)))) .nil))) .nil)))
    (.seq (.ex (.mut .append 1 (.cons (.tup (.cons (.str (Str.ofString "tells")) (.cons (.lst (.cons (.tup (.cons (.str (Str.ofString "word")) (.cons (.str (Str.ofString "tells")) .nil))) (.cons (.tup (.cons (.str (Str.ofString "row")) (.cons (.int 4) (.cons (.int 0) (.cons (.int 9) .nil))))) .nil))) .nil))) .nil)))
    (.seq (.ex (.mut .append 1 (.cons (.tup (.cons (.str (Str.ofString "past")) (.cons (.lst (.cons (.tup (.cons (.str (Str.ofString "word")) (.cons (.str (Str.ofString "past ")) .nil))) (.cons (.tup (.cons (.str (Str.ofString "name")) .nil)) (.cons (.tup (.cons (.str (Str.ofString "word")) (.cons (.str (Str.ofString " of ")) .nil))) (.cons (.tup (.cons (.str (Str.ofString "name")) .nil)) .nil))))) .nil))) .nil)))
    (.seq (.ret (.bin .Add (.var 1) (.lst (.cons (.tup (.cons (.str (Str.ofString "asks")) (.cons (.lst (.cons (.tup (.cons (.str (Str.ofString "word")) (.cons (.str (Str.ofString "asks ")) .nil))) (.cons (.tup (.cons (.str (Str.ofString "one")) (.cons (.var 0) .nil))) .nil))) .nil))) (.cons (.tup (.cons (.str (Str.ofString "end")) (.cons (.lst (.cons (.tup (.cons (.str (Str.ofString "word")) (.cons (.str (Str.ofString "end")) .nil))) .nil)) .nil))) .nil)))))
    .nil))))))⟩
/- 2: Scan_next_sign(self) slots ['self'] -/
def d2 : Def := ⟨1, 1, [true],
    (.seq (.ret (.slc (.fld (.var 0) (Str.ofString "text")) (.fld (.var 0) (Str.ofString "at")) (.bin .Add (.fld (.var 0) (Str.ofString "at")) (.int 1))))
    .nil)⟩
def p3_0 : CS := (.seq (.ite (.or (.not (.fld (.var 0) (Str.ofString "good"))) (.cmp .NotEq (.omt 0 (Str.ofString "next_sign") 2 0 .nil) (.var 2))) (.seq (.fst 0 (Str.ofString "good") (.bl false))
    (.seq .retN
    .nil)) .nil)
    (.seq (.fau 0 (Str.ofString "at") .Add (.int 1))
    .nil))
def p3_1 : CS := (.for_ (.nm 2) (.var 1) p3_0)
/- 3: Scan_take_word(self, word) slots ['self', 'word', 'sign'] -/
def d3 : Def := ⟨2, 3, [true, false],
    (.seq p3_1
    .nil)⟩
def p4_0 : CE := (.and (.cmp .Lt (.var 1) (.blt .len (.cons (.fld (.var 0) (Str.ofString "text")) .nil))) (.cmp .In (.ix (.fld (.var 0) (Str.ofString "text")) (.var 1)) (.bin .Add (.con (Str.ofString "LETTERS")) (.con (Str.ofString "DIGITS")))))
def p4_1 : CS := (.seq (.aug 1 .Add (.int 1))
    .nil)
def p4_2 : CS := (.while_ p4_0 p4_1)
/- 4: Scan_rest_run(self) slots ['self', 'end'] -/
def d4 : Def := ⟨1, 2, [true],
    (.seq (.asg (.nm 1) (.fld (.var 0) (Str.ofString "at")))
    (.seq p4_2
    (.seq (.ret (.slc (.fld (.var 0) (Str.ofString "text")) (.fld (.var 0) (Str.ofString "at")) (.var 1)))
    .nil)))⟩
/- 5: Scan_take_name(self) slots ['self', 'run'] -/
def d5 : Def := ⟨1, 2, [true],
    (.seq (.asg (.nm 1) (.omt 0 (Str.ofString "rest_run") 4 0 .nil))
    (.seq (.ite (.or (.not (.fld (.var 0) (Str.ofString "good"))) (.or (.cmp .Eq (.var 1) (.str (Str.ofString ""))) (.cmp .In (.ix (.var 1) (.int 0)) (.con (Str.ofString "DIGITS"))))) (.seq (.fst 0 (Str.ofString "good") (.bl false))
    (.seq (.ret (.str (Str.ofString "")))
    .nil)) .nil)
    (.seq (.fau 0 (Str.ofString "at") .Add (.blt .min (.cons (.blt .len (.cons (.var 1) .nil)) (.cons (.con (Str.ofString "MOST_SIGNS")) .nil))))
    (.seq (.fst 0 (Str.ofString "good") (.cmp .NotIn (.slc (.var 1) .nil (.con (Str.ofString "MOST_SIGNS"))) (.con (Str.ofString "RESERVED"))))
    (.seq (.ret (.slc (.var 1) .nil (.con (Str.ofString "MOST_SIGNS"))))
    .nil)))))⟩
/- 6: take_fold(scan) slots ['scan'] -/
def d6 : Def := ⟨1, 1, [true],
    (.seq (.ex (.omt 0 (Str.ofString "take_word") 3 0 (.cons (.str (Str.ofString "fold ")) .nil)))
    (.seq (.ret (.tup (.cons (.str (Str.ofString "fold")) (.cons (.omt 0 (Str.ofString "take_name") 5 0 .nil) .nil))))
    .nil))⟩
/- 7: is_between(run, least, most) slots ['run', 'least', 'most'] -/
def d7 : Def := ⟨3, 3, [false, false, false],
    (.seq (.ret (.and (.cmp .Eq (.blt .len (.cons (.var 0) .nil)) (.int 1)) (.and (.cmp .In (.var 0) (.con (Str.ofString "DIGITS"))) (.chn .LtE .LtE (.var 1) (.blt .int (.cons (.var 0) .nil)) (.var 2)))))
    .nil)⟩
def p8_0 : CE := (.and (.cmp .Lt (.var 4) (.blt .len (.cons (.var 3) .nil))) (.call 7 (.cons (.slc (.var 3) .nil (.bin .Add (.var 4) (.int 1))) (.cons (.var 1) (.cons (.var 2) .nil)))))
def p8_1 : CS := (.seq (.aug 4 .Add (.int 1))
    .nil)
def p8_2 : CS := (.while_ p8_0 p8_1)
/- 8: Scan_take_count(self, least, most) slots ['self', 'least', 'most', 'run', 'many'] -/
def d8 : Def := ⟨3, 5, [true, false, false],
    (.seq (.asg (.nm 3) (.omt 0 (Str.ofString "rest_run") 4 0 .nil))
    (.seq (.asg (.nm 4) (.int 0))
    (.seq p8_2
    (.seq (.fau 0 (Str.ofString "at") .Add (.ife (.fld (.var 0) (Str.ofString "good")) (.var 4) (.int 0)))
    (.seq (.fst 0 (Str.ofString "good") (.and (.fld (.var 0) (Str.ofString "good")) (.cmp .Gt (.var 4) (.int 0))))
    (.seq (.ret (.ife (.fld (.var 0) (Str.ofString "good")) (.blt .int (.cons (.slc (.var 3) .nil (.var 4)) .nil)) (.int 0)))
    .nil))))))⟩
/- 9: take_states(scan) slots ['scan'] -/
def d9 : Def := ⟨1, 1, [true],
    (.seq (.ex (.omt 0 (Str.ofString "take_word") 3 0 (.cons (.str (Str.ofString "states ")) .nil)))
    (.seq (.ret (.tup (.cons (.str (Str.ofString "states")) (.cons (.omt 0 (Str.ofString "take_count") 8 0 (.cons (.int 1) (.cons (.con (Str.ofString "MOST_STATES")) .nil))) .nil))))
    .nil))⟩
def p10_0 : CE := (.and (.fld (.var 0) (Str.ofString "good")) (.and (.cmp .Lt (.blt .len (.cons (.var 4) .nil)) (.var 1)) (.or (.cmp .Eq (.var 4) (.lst .nil)) (.cmp .Eq (.omt 0 (Str.ofString "next_sign") 2 0 .nil) (.str (Str.ofString " "))))))
def p10_1 : CS := (.seq (.ex (.omt 0 (Str.ofString "take_word") 3 0 (.cons (.str (Str.ofString " ")) .nil)))
    (.seq (.ex (.mut .append 4 (.cons (.omt 0 (Str.ofString "take_count") 8 0 (.cons (.var 2) (.cons (.var 3) .nil))) .nil)))
    .nil))
def p10_2 : CS := (.while_ p10_0 p10_1)
/- 10: Scan_take_row(self, most, least, greatest) slots ['self', 'most', 'least', 'greatest', 'found'] -/
def d10 : Def := ⟨4, 5, [true, false, false, false],
    (.seq (.asg (.nm 4) (.lst .nil))
    (.seq p10_2
    (.seq (.ret (.blt .tuple (.cons (.var 4) .nil)))
    .nil)))⟩
/- 11: take_event(scan) slots ['scan', 'name'] -/
def d11 : Def := ⟨1, 2, [true],
    (.seq (.ex (.omt 0 (Str.ofString "take_word") 3 0 (.cons (.str (Str.ofString "event ")) .nil)))
    (.seq (.asg (.nm 1) (.omt 0 (Str.ofString "take_name") 5 0 .nil))
    (.seq (.ret (.tup (.cons (.str (Str.ofString "event")) (.cons (.var 1) (.cons (.omt 0 (Str.ofString "take_row") 10 0 (.cons (.con (Str.ofString "MOST_STATES")) (.cons (.int 0) (.cons (.bin .Sub (.con (Str.ofString "MOST_STATES")) (.int 1)) .nil)))) .nil)))))
    .nil)))⟩
/- 12: take_tells(scan) slots ['scan'] -/
def d12 : Def := ⟨1, 1, [true],
    (.seq (.ex (.omt 0 (Str.ofString "take_word") 3 0 (.cons (.str (Str.ofString "tells")) .nil)))
    (.seq (.ret (.tup (.cons (.str (Str.ofString "tells")) (.cons (.omt 0 (Str.ofString "take_row") 10 0 (.cons (.con (Str.ofString "MOST_STATES")) (.cons (.int 0) (.cons (.con (Str.ofString "MOST_ANSWER")) .nil)))) .nil))))
    .nil))⟩
/- 13: take_past(scan) slots ['scan', 'name'] -/
def d13 : Def := ⟨1, 2, [true],
    (.seq (.ex (.omt 0 (Str.ofString "take_word") 3 0 (.cons (.str (Str.ofString "past ")) .nil)))
    (.seq (.asg (.nm 1) (.omt 0 (Str.ofString "take_name") 5 0 .nil))
    (.seq (.ex (.omt 0 (Str.ofString "take_word") 3 0 (.cons (.str (Str.ofString " of ")) .nil)))
    (.seq (.ret (.tup (.cons (.str (Str.ofString "past")) (.cons (.var 1) (.cons (.omt 0 (Str.ofString "take_name") 5 0 .nil) .nil)))))
    .nil))))⟩
def p14_0 : CE := (.and (.cmp .Lt (.var 2) (.blt .len (.cons (.var 1) .nil))) (.cmp .Eq (.slc (.fld (.var 0) (Str.ofString "text")) (.bin .Add (.fld (.var 0) (Str.ofString "at")) (.var 2)) (.bin .Add (.bin .Add (.fld (.var 0) (Str.ofString "at")) (.var 2)) (.int 1))) (.ix (.var 1) (.var 2))))
def p14_1 : CS := (.seq (.aug 2 .Add (.int 1))
    .nil)
def p14_2 : CS := (.while_ p14_0 p14_1)
/- 14: Scan_shared_with(self, word) slots ['self', 'word', 'many'] -/
def d14 : Def := ⟨2, 3, [true, false],
    (.seq (.asg (.nm 2) (.int 0))
    (.seq p14_2
    (.seq (.ret (.var 2))
    .nil)))⟩
def p15_0 : CE := (.omt 0 (Str.ofString "shared_with") 14 0 (.cons (.var 4) .nil))
def p15_1 : CE := (.lc [4] (.nm 4) (.var 1) .nil p15_0)
/- 15: Scan_take_one_of(self, words) slots ['self', 'words', 'shared', 'best', 'word'] -/
def d15 : Def := ⟨2, 5, [true, false],
    (.seq (.asg (.nm 2) p15_1)
    (.seq (.asg (.nm 3) (.mth .index (.var 2) (.cons (.blt .max (.cons (.var 2) .nil)) .nil)))
    (.seq (.ex (.omt 0 (Str.ofString "take_word") 3 0 (.cons (.ix (.var 1) (.var 3)) .nil)))
    (.seq (.ret (.ix (.var 1) (.var 3)))
    .nil))))⟩
/- 16: take_asks(scan) slots ['scan'] -/
def d16 : Def := ⟨1, 1, [true],
    (.seq (.ex (.omt 0 (Str.ofString "take_word") 3 0 (.cons (.str (Str.ofString "asks ")) .nil)))
    (.seq (.ret (.tup (.cons (.str (Str.ofString "asks")) (.cons (.omt 0 (Str.ofString "take_one_of") 15 0 (.cons (.con (Str.ofString "ASKS")) .nil)) .nil))))
    .nil))⟩
/- 17: take_close(scan) slots ['scan'] -/
def d17 : Def := ⟨1, 1, [true],
    (.seq (.ex (.omt 0 (Str.ofString "take_word") 3 0 (.cons (.str (Str.ofString "end")) .nil)))
    (.seq (.ret (.tup (.cons (.str (Str.ofString "end")) .nil)))
    .nil))⟩
/- 18: all_shapes() slots [] -/
def d18 : Def := ⟨0, 0, [],
    (.seq (.ret (.tup (.cons (.fnv 6) (.cons (.fnv 9) (.cons (.fnv 11) (.cons (.fnv 12) (.cons (.fnv 13) (.cons (.fnv 16) (.cons (.fnv 17) .nil)))))))))
    .nil)⟩
/- 19: _law_take(bag, many) slots ['bag', 'many', 'first', 'second', 'cell', 'stirred', 'value'] -/
def d19 : Def := ⟨2, 7, [true, false],
    (.seq (.ite (.cmp .Eq (.ix (.var 0) (.int 0)) (.int 0)) (.seq (.asg (.nm 4) (.ix (.bin .Add (.slc (.ix (.var 0) (.int 3)) (.ix (.var 0) (.int 2)) .nil) (.lst (.cons (.int 0) .nil))) (.int 0)))
    (.seq (.sau 0 (.int 2) .Add (.int 1))
    (.seq (.ite (.cmp .GtE (.var 4) (.bin .Pow (.int 10) (.int 18))) (.seq (.set 0 (.int 0) (.var 4))
    .nil) .nil)
    (.seq (.asg (.nm 5) (.bin .Add (.bin .Add (.bin .Mult (.ix (.var 0) (.int 1)) (.int 48271)) (.bin .Mod (.blt .int (.cons (.var 4) .nil)) (.int 2147483647))) (.bin .Mult (.int 7919) (.ix (.var 0) (.int 2)))))
    (.seq (.set 0 (.int 1) (.bin .Mod (.blt .int (.cons (.var 5) .nil)) (.int 2147483647)))
    .nil))))) .nil)
    (.seq (.ite (.cmp .Gt (.ix (.var 0) (.int 0)) (.int 0)) (.seq (.asg (.nm 6) (.bin .Mod (.blt .int (.cons (.ix (.var 0) (.int 0)) .nil)) (.var 1)))
    (.seq (.set 0 (.int 0) (.bin .FloorDiv (.blt .int (.cons (.ix (.var 0) (.int 0)) .nil)) (.var 1)))
    (.seq (.ret (.var 6))
    .nil))) .nil)
    (.seq (.asg (.nm 2) (.bin .Mod (.blt .int (.cons (.bin .Mult (.bin .Add (.ix (.var 0) (.int 1)) (.int 1)) (.int 39373)) .nil)) (.int 1000000007)))
    (.seq (.asg (.nm 3) (.bin .Mod (.blt .int (.cons (.bin .Mult (.bin .Mod (.blt .int (.cons (.bin .Mult (.var 2) (.var 2)) .nil)) (.int 998244353)) (.int 30011)) .nil)) (.int 998244353)))
    (.seq (.ret (.bin .Mod (.blt .int (.cons (.bin .FloorDiv (.var 3) (.int 7)) .nil)) (.var 1)))
    .nil)))))⟩
/- 20: _law_some(bag, things) slots ['bag', 'things'] -/
def d20 : Def := ⟨2, 2, [true, false],
    (.seq (.ret (.ix (.var 1) (.call 19 (.cons (.var 0) (.cons (.blt .len (.cons (.var 1) .nil)) .nil)))))
    .nil)⟩
/- 21: _law_spoilt(bag, text) slots ['bag', 'text', 'at', 'sign', 'some'] -/
def d21 : Def := ⟨2, 5, [true, false],
    (.seq (.par [2, 3] (.cons (.call 19 (.cons (.var 0) (.cons (.bin .Add (.blt .len (.cons (.var 1) .nil)) (.int 1)) .nil))) (.cons (.call 20 (.cons (.var 0) (.cons (.blt .list (.cons (.str (Str.ofString " 0379abfo-x")) .nil)) .nil))) .nil)))
    (.seq (.asg (.nm 4) (.lst (.cons (.var 1) (.cons (.slc (.var 1) .nil (.var 2)) (.cons (.bin .Add (.bin .Add (.slc (.var 1) .nil (.var 2)) (.var 3)) (.slc (.var 1) (.var 2) .nil)) (.cons (.bin .Add (.bin .Add (.slc (.var 1) .nil (.var 2)) (.var 3)) (.slc (.var 1) (.bin .Add (.var 2) (.int 1)) .nil)) .nil))))))
    (.seq (.ret (.call 20 (.cons (.var 0) (.cons (.bin .Add (.var 4) (.lst (.cons (.bin .Add (.slc (.var 1) .nil (.var 2)) (.slc (.var 1) (.bin .Add (.var 2) (.int 1)) .nil)) .nil))) .nil))))
    .nil)))⟩
def p22_0 : CE := (.bin .Add (.str (Str.ofString " ")) (.blt .str (.cons (.call 19 (.cons (.var 0) (.cons (.bin .Add (.var 6) (.int 1)) .nil))) .nil)))
def p22_1 : CE := (.lc [9] (.nm 9) (.rg1 (.bin .Add (.int 1) (.call 19 (.cons (.var 0) (.cons (.var 7) .nil))))) .nil p22_0)
/- 22: _law_part(bag) slots ['bag', 'kind', 'word', 'name', 'words', 'least', 'most', 'many', 'row', 'k'] -/
def d22 : Def := ⟨1, 10, [true],
    (.seq (.asg (.nm 1) (.call 19 (.cons (.var 0) (.cons (.int 6) .nil))))
    (.seq (.ite (.cmp .Eq (.var 1) (.int 0)) (.seq (.asg (.nm 2) (.call 20 (.cons (.var 0) (.cons (.lst (.cons (.str (Str.ofString "fold ")) (.cons (.str (Str.ofString "states ")) (.cons (.str (Str.ofString " of ")) (.cons (.str (Str.ofString "x")) (.cons (.str (Str.ofString "asks ")) .nil)))))) .nil))))
    (.seq (.ret (.tup (.cons (.tup (.cons (.str (Str.ofString "word")) (.cons (.var 2) .nil))) (.cons (.var 2) .nil))))
    .nil)) .nil)
    (.seq (.ite (.cmp .Eq (.var 1) (.int 1)) (.seq (.asg (.nm 3) (.call 20 (.cons (.var 0) (.cons (.lst (.cons (.str (Str.ofString "a")) (.cons (.str (Str.ofString "ab0")) (.cons (.str (Str.ofString "abcdefgh")) (.cons (.str (Str.ofString "of")) (.cons (.str (Str.ofString "ends")) (.cons (.str (Str.ofString "tells")) (.cons (.str (Str.ofString "q7")) .nil)))))))) .nil))))
    (.seq (.ret (.tup (.cons (.tup (.cons (.str (Str.ofString "name")) .nil)) (.cons (.var 3) .nil))))
    .nil)) .nil)
    (.seq (.ite (.cmp .Eq (.var 1) (.int 2)) (.seq (.asg (.nm 4) (.call 20 (.cons (.var 0) (.cons (.lst (.cons (.tup (.cons (.str (Str.ofString "answers")) (.cons (.str (Str.ofString "moments")) (.cons (.str (Str.ofString "counts")) .nil)))) (.cons (.tup (.cons (.str (Str.ofString "ab")) (.cons (.str (Str.ofString "ac")) .nil))) (.cons (.tup (.cons (.str (Str.ofString "full")) (.cons (.str (Str.ofString "soon")) (.cons (.str (Str.ofString "even")) .nil)))) .nil)))) .nil))))
    (.seq (.ret (.tup (.cons (.tup (.cons (.str (Str.ofString "one")) (.cons (.var 4) .nil))) (.cons (.call 20 (.cons (.var 0) (.cons (.blt .list (.cons (.var 4) .nil)) .nil))) .nil))))
    .nil)) .nil)
    (.seq (.ite (.cmp .Eq (.var 1) (.int 3)) (.seq (.asg (.nm 5) (.call 19 (.cons (.var 0) (.cons (.int 5) .nil))))
    (.seq (.asg (.nm 6) (.bin .Add (.var 5) (.call 19 (.cons (.var 0) (.cons (.bin .Sub (.int 10) (.var 5)) .nil)))))
    (.seq (.ret (.tup (.cons (.tup (.cons (.str (Str.ofString "count")) (.cons (.var 5) (.cons (.var 6) .nil)))) (.cons (.blt .str (.cons (.bin .Add (.var 5) (.call 19 (.cons (.var 0) (.cons (.bin .Add (.bin .Sub (.var 6) (.var 5)) (.int 1)) .nil)))) .nil)) .nil))))
    .nil))) .nil)
    (.seq (.ite (.cmp .Eq (.var 1) (.int 4)) (.seq (.asg (.tp (.cons (.nm 7) (.cons (.nm 6) .nil))) (.tup (.cons (.bin .Add (.int 1) (.call 19 (.cons (.var 0) (.cons (.int 4) .nil)))) (.cons (.bin .Add (.int 3) (.call 19 (.cons (.var 0) (.cons (.int 7) .nil)))) .nil))))
    (.seq (.asg (.nm 8) p22_1)
    (.seq (.ret (.tup (.cons (.tup (.cons (.str (Str.ofString "row")) (.cons (.var 7) (.cons (.int 0) (.cons (.var 6) .nil))))) (.cons (.mth .join (.str (Str.ofString "")) (.cons (.var 8) .nil)) .nil))))
    .nil))) .nil)
    (.seq (.ret (.tup (.cons (.tup (.cons (.str (Str.ofString "end")) .nil)) (.cons (.str (Str.ofString "")) .nil))))
    .nil)))))))⟩
/- 23: Scan___init__(self, text) slots ['self', 'text'] -/
def d23 : Def := ⟨2, 2, [true, false],
    (.seq (.fst 0 (Str.ofString "text") (.var 1))
    (.seq (.fst 0 (Str.ofString "at") (.int 0))
    (.seq (.fst 0 (Str.ofString "good") (.bl true))
    .nil)))⟩
/- 24: Scan_take_end(self) slots ['self'] -/
def d24 : Def := ⟨1, 1, [true],
    (.seq (.fst 0 (Str.ofString "good") (.and (.fld (.var 0) (Str.ofString "good")) (.cmp .Eq (.fld (.var 0) (Str.ofString "at")) (.blt .len (.cons (.fld (.var 0) (Str.ofString "text")) .nil)))))
    .nil)⟩
/- 25: _law_done(scan, act) slots ['scan', 'act'] -/
def d25 : Def := ⟨2, 2, [true, false],
    (.seq (.ite (.cmp .Eq (.ix (.var 1) (.int 0)) (.str (Str.ofString "word"))) (.seq (.ret (.omt 0 (Str.ofString "take_word") 3 0 (.cons (.ix (.var 1) (.int 1)) .nil)))
    .nil) .nil)
    (.seq (.ite (.cmp .Eq (.ix (.var 1) (.int 0)) (.str (Str.ofString "name"))) (.seq (.ret (.omt 0 (Str.ofString "take_name") 5 0 .nil))
    .nil) .nil)
    (.seq (.ite (.cmp .Eq (.ix (.var 1) (.int 0)) (.str (Str.ofString "one"))) (.seq (.ret (.omt 0 (Str.ofString "take_one_of") 15 0 (.cons (.ix (.var 1) (.int 1)) .nil)))
    .nil) .nil)
    (.seq (.ite (.cmp .Eq (.ix (.var 1) (.int 0)) (.str (Str.ofString "count"))) (.seq (.ret (.omt 0 (Str.ofString "take_count") 8 0 (.cons (.ix (.var 1) (.int 1)) (.cons (.ix (.var 1) (.int 2)) .nil))))
    .nil) .nil)
    (.seq (.ite (.cmp .Eq (.ix (.var 1) (.int 0)) (.str (Str.ofString "row"))) (.seq (.ret (.omt 0 (Str.ofString "take_row") 10 0 (.cons (.ix (.var 1) (.int 1)) (.cons (.ix (.var 1) (.int 2)) (.cons (.ix (.var 1) (.int 3)) .nil)))))
    .nil) .nil)
    (.seq (.ret (.omt 0 (Str.ofString "take_end") 24 0 .nil))
    .nil))))))⟩
def p26_0 : CS := (.seq (.ite (.cmp .NotEq (.slc (.var 0) (.bin .Add (.var 1) (.var 4)) (.bin .Add (.bin .Add (.var 1) (.var 4)) (.int 1))) (.var 5)) (.seq .brk
    .nil) .nil)
    (.seq (.asg (.nm 3) (.bin .Add (.var 3) (.int 1)))
    .nil))
def p26_1 : CS := (.for_ (.tp (.cons (.nm 4) (.cons (.nm 5) .nil))) (.enm (.var 2)) p26_0)
/- 26: _law_word_over(text, at, word) slots ['text', 'at', 'word', 'over', 'k', 'sign'] -/
def d26 : Def := ⟨3, 6, [false, false, false],
    (.seq (.asg (.nm 3) (.int 0))
    (.seq p26_1
    (.seq (.ret (.tup (.cons (.var 3) (.cons (.cmp .Eq (.var 3) (.blt .len (.cons (.var 2) .nil))) .nil))))
    .nil)))⟩
/- 27: _law_reserved() slots [] -/
def d27 : Def := ⟨0, 0, [],
    (.seq (.ret (.lst (.cons (.str (Str.ofString "answers")) (.cons (.str (Str.ofString "asks")) (.cons (.str (Str.ofString "counts")) (.cons (.str (Str.ofString "end")) (.cons (.str (Str.ofString "event")) (.cons (.str (Str.ofString "fold")) (.cons (.str (Str.ofString "moments")) (.cons (.str (Str.ofString "of")) (.cons (.str (Str.ofString "past")) (.cons (.str (Str.ofString "states")) (.cons (.str (Str.ofString "tells")) .nil)))))))))))))
    .nil)⟩
def p28_0 : CS := (.seq (.asg (.nm 6) (.slc (.var 0) (.bin .Add (.var 1) (.var 4)) (.bin .Add (.bin .Add (.var 1) (.var 4)) (.int 1))))
    (.seq (.ite (.or (.cmp .Eq (.var 6) (.str (Str.ofString ""))) (.cmp .NotIn (.var 6) (.ife (.cmp .Eq (.var 4) (.int 0)) (.var 2) (.bin .Add (.var 2) (.str (Str.ofString "0123456789")))))) (.seq .brk
    .nil) .nil)
    (.seq (.asg (.nm 3) (.bin .Add (.var 3) (.int 1)))
    .nil)))
def p28_1 : CS := (.for_ (.nm 4) (.rg1 (.int 8)) p28_0)
/- 28: _law_name_over(text, at) slots ['text', 'at', 'letters', 'over', 'k', 'name', 'sign'] -/
def d28 : Def := ⟨2, 7, [false, false],
    (.seq (.asg (.tp (.cons (.nm 2) (.cons (.nm 3) .nil))) (.tup (.cons (.str (Str.ofString "abcdefghijklmnopqrstuvwxyz")) (.cons (.int 0) .nil))))
    (.seq p28_1
    (.seq (.asg (.nm 5) (.slc (.var 0) (.var 1) (.bin .Add (.var 1) (.var 3))))
    (.seq (.ret (.tup (.cons (.var 3) (.cons (.and (.cmp .Gt (.var 3) (.int 0)) (.cmp .NotIn (.var 5) (.call 27 .nil))) (.cons (.var 5) .nil)))))
    .nil))))⟩
def p29_0 : CS := (.seq (.asg (.tp (.cons (.nm 6) (.cons (.nm 7) .nil))) (.call 26 (.cons (.var 0) (.cons (.var 1) (.cons (.var 5) .nil)))))
    (.seq (.asg (.nm 3) (.blt .max (.cons (.var 3) (.cons (.var 6) .nil))))
    (.seq (.asg (.nm 4) (.ife (.var 7) (.var 5) (.var 4)))
    .nil)))
def p29_1 : CS := (.for_ (.nm 5) (.var 2) p29_0)
/- 29: _law_one_over(text, at, words) slots ['text', 'at', 'words', 'best', 'told', 'word', 'over', 'fits'] -/
def d29 : Def := ⟨3, 8, [false, false, false],
    (.seq (.asg (.tp (.cons (.nm 3) (.cons (.nm 4) .nil))) (.tup (.cons (.int 0) (.cons .non .nil))))
    (.seq p29_1
    (.seq (.ret (.ife (.cmp .IsNot (.var 4) .non) (.tup (.cons (.var 3) (.cons (.bl true) (.cons (.var 4) .nil)))) (.tup (.cons (.var 3) (.cons (.bl false) (.cons .non .nil))))))
    .nil)))⟩
/- 30: _law_count_over(text, at, least, most) slots ['text', 'at', 'least', 'most', 'sign', 'fits'] -/
def d30 : Def := ⟨4, 6, [false, false, false, false],
    (.seq (.asg (.nm 4) (.slc (.var 0) (.var 1) (.bin .Add (.var 1) (.int 1))))
    (.seq (.asg (.nm 5) (.and (.cmp .NotEq (.var 4) (.str (Str.ofString ""))) (.and (.cmp .In (.var 4) (.str (Str.ofString "0123456789"))) (.chn .LtE .LtE (.var 2) (.blt .int (.cons (.var 4) .nil)) (.var 3)))))
    (.seq (.ret (.ife (.var 5) (.tup (.cons (.int 1) (.cons (.bl true) (.cons (.blt .int (.cons (.var 4) .nil)) .nil)))) (.tup (.cons (.int 0) (.cons (.bl false) (.cons .non .nil))))))
    .nil)))⟩
def p31_0 : CS := (.seq (.ite (.cmp .NotEq (.slc (.var 0) (.bin .Add (.var 1) (.var 5)) (.bin .Add (.bin .Add (.var 1) (.var 5)) (.int 1))) (.str (Str.ofString " "))) (.seq (.ret (.tup (.cons (.var 5) (.cons (.cmp .NotEq (.var 6) (.lst .nil)) (.cons (.blt .tuple (.cons (.var 6) .nil)) .nil)))))
    .nil) .nil)
    (.seq (.asg (.tp (.cons (.nm 8) (.cons (.nm 9) (.cons (.nm 10) .nil)))) (.call 30 (.cons (.var 0) (.cons (.bin .Add (.bin .Add (.var 1) (.var 5)) (.int 1)) (.cons (.var 3) (.cons (.var 4) .nil))))))
    (.seq (.ite (.not (.var 9)) (.seq (.ret (.tup (.cons (.bin .Add (.var 5) (.int 1)) (.cons (.bl false) (.cons .non .nil)))))
    .nil) .nil)
    (.seq (.asg (.nm 5) (.bin .Add (.var 5) (.int 2)))
    (.seq (.ex (.mut .append 6 (.cons (.var 10) .nil)))
    .nil)))))
def p31_1 : CS := (.for_ (.nm 7) (.rg1 (.var 2)) p31_0)
/- 31: _law_row_over(text, at, many, least, most) slots ['text', 'at', 'many', 'least', 'most', 'over', 'found', 'lap', 'one', 'fits', 'number'] -/
def d31 : Def := ⟨5, 11, [false, false, false, false, false],
    (.seq (.par [5, 6] (.cons (.int 0) (.cons (.lst .nil) .nil)))
    (.seq p31_1
    (.seq (.ret (.tup (.cons (.var 5) (.cons (.bl true) (.cons (.blt .tuple (.cons (.var 6) .nil)) .nil)))))
    .nil)))⟩
/- 32: _law_taken(text, at, act) slots ['text', 'at', 'act', 'kind'] -/
def d32 : Def := ⟨3, 4, [false, false, false],
    (.seq (.asg (.nm 3) (.ix (.var 2) (.int 0)))
    (.seq (.ite (.cmp .Eq (.var 3) (.str (Str.ofString "word"))) (.seq (.ret (.bin .Add (.call 26 (.cons (.var 0) (.cons (.var 1) (.cons (.ix (.var 2) (.int 1)) .nil)))) (.tup (.cons .non (.cons (.bl false) .nil)))))
    .nil) .nil)
    (.seq (.ite (.cmp .Eq (.var 3) (.str (Str.ofString "name"))) (.seq (.ret (.bin .Add (.call 28 (.cons (.var 0) (.cons (.var 1) .nil))) (.tup (.cons (.bl true) .nil))))
    .nil) .nil)
    (.seq (.ite (.cmp .Eq (.var 3) (.str (Str.ofString "one"))) (.seq (.ret (.bin .Add (.call 29 (.cons (.var 0) (.cons (.var 1) (.cons (.ix (.var 2) (.int 1)) .nil)))) (.tup (.cons (.bl true) .nil))))
    .nil) .nil)
    (.seq (.ite (.cmp .Eq (.var 3) (.str (Str.ofString "count"))) (.seq (.ret (.bin .Add (.call 30 (.cons (.var 0) (.cons (.var 1) (.cons (.ix (.var 2) (.int 1)) (.cons (.ix (.var 2) (.int 2)) .nil))))) (.tup (.cons (.bl true) .nil))))
    .nil) .nil)
    (.seq (.ite (.cmp .Eq (.var 3) (.str (Str.ofString "row"))) (.seq (.ret (.bin .Add (.call 31 (.cons (.var 0) (.cons (.var 1) (.cons (.ix (.var 2) (.int 1)) (.cons (.ix (.var 2) (.int 2)) (.cons (.ix (.var 2) (.int 3)) .nil)))))) (.tup (.cons (.bl true) .nil))))
    .nil) .nil)
    (.seq (.ret (.tup (.cons (.int 0) (.cons (.cmp .Eq (.var 1) (.blt .len (.cons (.var 0) .nil))) (.cons .non (.cons (.bl false) .nil))))))
    .nil)))))))⟩
/- 33: _law_alike(found, due) slots ['found', 'due'] -/
def d33 : Def := ⟨2, 2, [false, false],
    (.seq (.ret (.and (.cmp .Eq (.blt .repr (.cons (.var 0) .nil)) (.blt .repr (.cons (.var 1) .nil))) (.cmp .Eq (.var 0) (.var 1))))
    .nil)⟩
def p34_0 : CS := (.seq (.asg (.nm 8) (.call 25 (.cons (.var 3) (.cons (.var 6) .nil))))
    (.seq (.ite (.var 5) (.seq (.asg (.tp (.cons (.nm 10) (.cons (.nm 5) (.cons (.nm 11) (.cons (.nm 12) .nil))))) (.call 32 (.cons (.var 2) (.cons (.var 4) (.cons (.var 6) .nil)))))
    (.seq (.asg (.nm 4) (.bin .Add (.var 4) (.var 10)))
    (.seq (.ite (.and (.var 5) (.and (.var 12) (.not (.call 33 (.cons (.var 8) (.cons (.var 11) .nil)))))) (.seq (.ret (.bl false))
    .nil) .nil)
    .nil))) .nil)
    (.seq (.ite (.not (.call 33 (.cons (.lst (.cons (.fld (.var 3) (Str.ofString "text")) (.cons (.fld (.var 3) (Str.ofString "at")) (.cons (.fld (.var 3) (Str.ofString "good")) .nil)))) (.cons (.lst (.cons (.var 2) (.cons (.var 4) (.cons (.var 5) .nil)))) .nil)))) (.seq (.ret (.bl false))
    .nil) .nil)
    .nil)))
def p34_1 : CS := (.for_ (.tp (.cons (.nm 6) (.cons (.nm 7) .nil))) (.bin .Add (.var 1) (.lst (.cons (.tup (.cons (.tup (.cons (.str (Str.ofString "end")) .nil)) (.cons (.str (Str.ofString "")) .nil))) .nil))) p34_0)
def p34_2 : CE := (.lc [6, 7] (.tp (.cons (.nm 6) (.cons (.nm 7) .nil))) (.var 1) .nil (.var 7))
def p34_3 : CE := (.call 22 (.cons (.var 0) .nil))
def p34_4 : CE := (.lc [9] (.nm 9) (.rg1 (.bin .Add (.int 1) (.call 19 (.cons (.var 0) (.cons (.int 5) .nil))))) .nil p34_3)
/- 34: _law_is_gone_right(bag) slots ['bag', 'parts', 'text', 'scan', 'at', 'good', 'act', 'told', 'found', 'k', 'over', 'due', 'shown_so'] -/
def d34 : Def := ⟨1, 13, [true],
    (.seq (.asg (.nm 1) p34_4)
    (.seq (.asg (.nm 2) (.call 21 (.cons (.var 0) (.cons (.call 21 (.cons (.var 0) (.cons (.mth .join (.str (Str.ofString "")) (.cons p34_2 .nil)) .nil))) .nil))))
    (.seq (.par [3, 4, 5] (.cons (.mk 0 23 (.cons (.var 2) .nil)) (.cons (.int 0) (.cons (.bl true) .nil))))
    (.seq (.ite (.cmp .NotEq (.tup (.cons (.fld (.var 3) (Str.ofString "text")) (.cons (.fld (.var 3) (Str.ofString "at")) (.cons (.fld (.var 3) (Str.ofString "good")) .nil)))) (.tup (.cons (.var 2) (.cons (.int 0) (.cons (.bl true) .nil))))) (.seq (.ret (.bl false))
    .nil) .nil)
    (.seq p34_1
    (.seq (.ret (.bl true))
    .nil))))))⟩
def p35_0 : CS := (.seq (.ex (.mut .insert 2 (.cons (.call 19 (.cons (.var 0) (.cons (.bin .Add (.blt .len (.cons (.var 2) .nil)) (.int 1)) .nil))) (.cons (.var 3) .nil))))
    .nil)
def p35_1 : CS := (.for_ (.nm 3) (.var 1) p35_0)
/- 35: _law_mixed(bag, things) slots ['bag', 'things', 'found', 'thing'] -/
def d35 : Def := ⟨2, 4, [true, false],
    (.seq (.asg (.nm 2) (.lst .nil))
    (.seq p35_1
    (.seq (.ret (.var 2))
    .nil)))⟩
def p36_0 : CS := (.seq (.asg (.nm 4) (.mk 0 23 (.cons (.var 0) .nil)))
    (.seq (.asg (.nm 5) (.cav 3 (.cons (.var 4) .nil)))
    (.seq (.ex (.omt 0 (Str.ofString "take_end") 24 4 .nil))
    (.seq (.ite (.fld (.var 4) (Str.ofString "good")) (.seq (.ret (.tup (.cons (.var 5) (.cons (.int 0) .nil))))
    .nil) .nil)
    (.seq (.asg (.nm 2) (.blt .max (.cons (.var 2) (.cons (.fld (.var 4) (Str.ofString "at")) .nil))))
    .nil)))))
def p36_1 : CS := (.for_ (.nm 3) (.var 1) p36_0)
/- 36: fitted(text, shapes) slots ['text', 'shapes', 'reached', 'shape', 'scan', 'value'] -/
def d36 : Def := ⟨2, 6, [false, false],
    (.seq (.asg (.nm 2) (.int 0))
    (.seq p36_1
    (.seq (.ret (.tup (.cons .non (.cons (.var 2) .nil))))
    .nil)))⟩
def p37_0 : CS := (.seq (.ite (.var 6) (.seq (.asg (.tp (.cons (.nm 9) (.cons (.nm 6) (.cons (.nm 10) (.cons (.nm 11) .nil))))) (.call 32 (.cons (.var 0) (.cons (.var 5) (.cons (.var 8) .nil)))))
    (.seq (.asg (.nm 5) (.bin .Add (.var 5) (.var 9)))
    (.seq (.ex (.mut .extend 7 (.cons (.ife (.var 11) (.lst (.cons (.var 10) .nil)) (.lst .nil)) .nil)))
    .nil))) .nil)
    .nil)
def p37_1 : CS := (.for_ (.nm 8) (.var 4) p37_0)
def p37_2 : CS := (.seq (.par [5, 6, 7] (.cons (.int 0) (.cons (.bl true) (.cons (.lst (.cons (.var 3) .nil)) .nil))))
    (.seq p37_1
    (.seq (.ite (.and (.var 6) (.cmp .Eq (.var 5) (.blt .len (.cons (.var 0) .nil)))) (.seq (.ret (.tup (.cons (.blt .tuple (.cons (.var 7) .nil)) (.cons (.int 0) .nil))))
    .nil) .nil)
    (.seq (.asg (.nm 2) (.blt .max (.cons (.var 2) (.cons (.var 5) .nil))))
    .nil))))
def p37_3 : CS := (.for_ (.tp (.cons (.nm 3) (.cons (.nm 4) .nil))) (.var 1) p37_2)
/- 37: _law_fitted(text, takes) slots ['text', 'takes', 'best', 'word', 'acts', 'at', 'good', 'told', 'act', 'over', 'due', 'shown_so'] -/
def d37 : Def := ⟨2, 12, [false, false],
    (.seq (.asg (.nm 2) (.int 0))
    (.seq p37_3
    (.seq (.ret (.tup (.cons .non (.cons (.var 2) .nil))))
    .nil)))⟩
def p38_0 : CE := (.ix (.var 4) (.var 8))
def p38_1 : CE := (.lc [8] (.nm 8) (.var 7) .nil p38_0)
def p38_2 : CE := (.ix (.var 3) (.var 8))
def p38_3 : CE := (.lc [8] (.nm 8) (.var 7) .nil p38_2)
def p38_4 : CS := (.seq (.asg (.nm 6) (.call 21 (.cons (.var 1) (.cons (.call 21 (.cons (.var 1) (.cons (.call 20 (.cons (.var 1) (.cons (.var 5) .nil))) .nil))) .nil))))
    (.seq (.asg (.nm 7) (.slc (.call 35 (.cons (.var 1) (.cons (.lrg (.int 7)) .nil))) .nil (.bin .Add (.int 1) (.call 19 (.cons (.var 1) (.cons (.int 7) .nil))))))
    (.seq (.ite (.not (.call 33 (.cons (.call 36 (.cons (.var 6) (.cons p38_1 .nil))) (.cons (.call 37 (.cons (.var 6) (.cons p38_3 .nil))) .nil)))) (.seq (.ret (.bl false))
    .nil) .nil)
    .nil)))
def p38_5 : CS := (.for_ (.nm 2) (.rg1 (.int 25)) p38_4)
def p38_6 : CS := (.seq (.ite (.not (.call 34 (.cons (.var 1) .nil))) (.seq (.ret (.bl false))
    .nil) .nil)
    .nil)
def p38_7 : CS := (.for_ (.nm 2) (.rg1 (.int 25)) p38_6)
/- 38: law(script) slots ['script', 'bag', 'lap', 'takes', 'shapes', 'rows', 'text', 'some', 'k'] -/
def d38 : Def := ⟨1, 9, [false],
    (.seq (.asg (.nm 1) (.call 0 (.cons (.var 0) .nil)))
    (.seq p38_7
    (.seq (.asg (.tp (.cons (.nm 3) (.cons (.nm 4) .nil))) (.tup (.cons (.call 1 .nil) (.cons (.call 18 .nil) .nil))))
    (.seq (.ite (.cmp .NotEq (.blt .len (.cons (.var 4) .nil)) (.int 7)) (.seq (.ret (.bl false))
    .nil) .nil)
    (.seq (.asg (.nm 5) (.lst (.cons (.str (Str.ofString "fold a1")) (.cons (.str (Str.ofString "states 3")) (.cons (.str (Str.ofString "event go 1 0 2")) (.cons (.str (Str.ofString "tells 0 9")) (.cons (.str (Str.ofString "past p of a1")) (.cons (.str (Str.ofString "asks moments")) (.cons (.str (Str.ofString "end")) (.cons (.str (Str.ofString "event of 1")) .nil))))))))))
    (.seq p38_5
    (.seq (.ret (.bl true))
    .nil)))))))⟩
end EvL
end
section
set_option Elab.async false
set_option linter.all false
set_option maxRecDepth 100000
set_option maxHeartbeats 0
namespace EvL
open PySem PySem.Spec PyProof.Rows L2 Ev
def topS (i : Nat) : Stmt := PySem.Challenge.pw_pastfolds_k02_lines_gone_over_sign_by_si.main.body.getD i (.Pass ⟨0, 0, 0, 0⟩)
def clsBody : Stmt → List Stmt
  | .ClassDef _ _ _ b _ _ _ _ _ _ _ => b
  | _ => []
def subS (i j : Nat) : Stmt := (clsBody (topS i)).getD j (.Pass ⟨0, 0, 0, 0⟩)
def dfn (a : Str × Option Str) (x q : Str) (s : Stmt) : He.DefD := ⟨a, x, q, defArgs s, defBody s, defScope s, [], []⟩
def h0 : He.DefD := dfn ((Str.ofString "_law_bag"), none) (Str.ofString "_law_bag") (Str.ofString "_law_bag") (topS 21)
def h1 : He.DefD := dfn ((Str.ofString "_law_shape_takes"), none) (Str.ofString "_law_shape_takes") (Str.ofString "_law_shape_takes") (topS 37)
def h2 : He.DefD := dfn ((Str.ofString "Scan"), some (Str.ofString "next_sign")) (Str.ofString "next_sign") (Str.ofString "Scan.next_sign") (subS 8 1)
def h3 : He.DefD := dfn ((Str.ofString "Scan"), some (Str.ofString "take_word")) (Str.ofString "take_word") (Str.ofString "Scan.take_word") (subS 8 3)
def h4 : He.DefD := dfn ((Str.ofString "Scan"), some (Str.ofString "rest_run")) (Str.ofString "rest_run") (Str.ofString "Scan.rest_run") (subS 8 2)
def h5 : He.DefD := dfn ((Str.ofString "Scan"), some (Str.ofString "take_name")) (Str.ofString "take_name") (Str.ofString "Scan.take_name") (subS 8 4)
def h6 : He.DefD := dfn ((Str.ofString "take_fold"), none) (Str.ofString "take_fold") (Str.ofString "take_fold") (topS 11)
def h7 : He.DefD := dfn ((Str.ofString "is_between"), none) (Str.ofString "is_between") (Str.ofString "is_between") (topS 9)
def h8 : He.DefD := dfn ((Str.ofString "Scan"), some (Str.ofString "take_count")) (Str.ofString "take_count") (Str.ofString "Scan.take_count") (subS 8 7)
def h9 : He.DefD := dfn ((Str.ofString "take_states"), none) (Str.ofString "take_states") (Str.ofString "take_states") (topS 12)
def h10 : He.DefD := dfn ((Str.ofString "Scan"), some (Str.ofString "take_row")) (Str.ofString "take_row") (Str.ofString "Scan.take_row") (subS 8 8)
def h11 : He.DefD := dfn ((Str.ofString "take_event"), none) (Str.ofString "take_event") (Str.ofString "take_event") (topS 13)
def h12 : He.DefD := dfn ((Str.ofString "take_tells"), none) (Str.ofString "take_tells") (Str.ofString "take_tells") (topS 14)
def h13 : He.DefD := dfn ((Str.ofString "take_past"), none) (Str.ofString "take_past") (Str.ofString "take_past") (topS 15)
def h14 : He.DefD := dfn ((Str.ofString "Scan"), some (Str.ofString "shared_with")) (Str.ofString "shared_with") (Str.ofString "Scan.shared_with") (subS 8 6)
def h15 : He.DefD := dfn ((Str.ofString "Scan"), some (Str.ofString "take_one_of")) (Str.ofString "take_one_of") (Str.ofString "Scan.take_one_of") (subS 8 5)
def h16 : He.DefD := dfn ((Str.ofString "take_asks"), none) (Str.ofString "take_asks") (Str.ofString "take_asks") (topS 16)
def h17 : He.DefD := dfn ((Str.ofString "take_close"), none) (Str.ofString "take_close") (Str.ofString "take_close") (topS 17)
def h18 : He.DefD := dfn ((Str.ofString "all_shapes"), none) (Str.ofString "all_shapes") (Str.ofString "all_shapes") (topS 18)
def h19 : He.DefD := dfn ((Str.ofString "_law_take"), none) (Str.ofString "_law_take") (Str.ofString "_law_take") (topS 22)
def h20 : He.DefD := dfn ((Str.ofString "_law_some"), none) (Str.ofString "_law_some") (Str.ofString "_law_some") (topS 23)
def h21 : He.DefD := dfn ((Str.ofString "_law_spoilt"), none) (Str.ofString "_law_spoilt") (Str.ofString "_law_spoilt") (topS 35)
def h22 : He.DefD := dfn ((Str.ofString "_law_part"), none) (Str.ofString "_law_part") (Str.ofString "_law_part") (topS 34)
def h23 : He.DefD := dfn ((Str.ofString "Scan"), some (Str.ofString "__init__")) (Str.ofString "__init__") (Str.ofString "Scan.__init__") (subS 8 0)
def h24 : He.DefD := dfn ((Str.ofString "Scan"), some (Str.ofString "take_end")) (Str.ofString "take_end") (Str.ofString "Scan.take_end") (subS 8 9)
def h25 : He.DefD := dfn ((Str.ofString "_law_done"), none) (Str.ofString "_law_done") (Str.ofString "_law_done") (topS 33)
def h26 : He.DefD := dfn ((Str.ofString "_law_word_over"), none) (Str.ofString "_law_word_over") (Str.ofString "_law_word_over") (topS 27)
def h27 : He.DefD := dfn ((Str.ofString "_law_reserved"), none) (Str.ofString "_law_reserved") (Str.ofString "_law_reserved") (topS 26)
def h28 : He.DefD := dfn ((Str.ofString "_law_name_over"), none) (Str.ofString "_law_name_over") (Str.ofString "_law_name_over") (topS 28)
def h29 : He.DefD := dfn ((Str.ofString "_law_one_over"), none) (Str.ofString "_law_one_over") (Str.ofString "_law_one_over") (topS 31)
def h30 : He.DefD := dfn ((Str.ofString "_law_count_over"), none) (Str.ofString "_law_count_over") (Str.ofString "_law_count_over") (topS 29)
def h31 : He.DefD := dfn ((Str.ofString "_law_row_over"), none) (Str.ofString "_law_row_over") (Str.ofString "_law_row_over") (topS 30)
def h32 : He.DefD := dfn ((Str.ofString "_law_taken"), none) (Str.ofString "_law_taken") (Str.ofString "_law_taken") (topS 32)
def h33 : He.DefD := dfn ((Str.ofString "_law_alike"), none) (Str.ofString "_law_alike") (Str.ofString "_law_alike") (topS 25)
def h34 : He.DefD := dfn ((Str.ofString "_law_is_gone_right"), none) (Str.ofString "_law_is_gone_right") (Str.ofString "_law_is_gone_right") (topS 36)
def h35 : He.DefD := dfn ((Str.ofString "_law_mixed"), none) (Str.ofString "_law_mixed") (Str.ofString "_law_mixed") (topS 24)
def h36 : He.DefD := dfn ((Str.ofString "fitted"), none) (Str.ofString "fitted") (Str.ofString "fitted") (topS 19)
def h37 : He.DefD := dfn ((Str.ofString "_law_fitted"), none) (Str.ofString "_law_fitted") (Str.ofString "_law_fitted") (topS 38)
def h38 : He.DefD := dfn ((Str.ofString "law"), none) (Str.ofString "law") (Str.ofString "law") (topS 39)
def q0 : Def × List Str × List Str := (d0, [(Str.ofString "script"), (Str.ofString "cell")], [(Str.ofString "script")])
def q1 : Def × List Str × List Str := (d1, [(Str.ofString "asks"), (Str.ofString "found")], [])
def q2 : Def × List Str × List Str := (d2, [(Str.ofString "self")], [(Str.ofString "self")])
def q3 : Def × List Str × List Str := (d3, [(Str.ofString "self"), (Str.ofString "word"), (Str.ofString "sign")], [(Str.ofString "self"), (Str.ofString "word")])
def q4 : Def × List Str × List Str := (d4, [(Str.ofString "self"), (Str.ofString "end")], [(Str.ofString "self")])
def q5 : Def × List Str × List Str := (d5, [(Str.ofString "self"), (Str.ofString "run")], [(Str.ofString "self")])
def q6 : Def × List Str × List Str := (d6, [(Str.ofString "scan")], [(Str.ofString "scan")])
def q7 : Def × List Str × List Str := (d7, [(Str.ofString "run"), (Str.ofString "least"), (Str.ofString "most")], [(Str.ofString "run"), (Str.ofString "least"), (Str.ofString "most")])
def q8 : Def × List Str × List Str := (d8, [(Str.ofString "self"), (Str.ofString "least"), (Str.ofString "most"), (Str.ofString "run"), (Str.ofString "many")], [(Str.ofString "self"), (Str.ofString "least"), (Str.ofString "most")])
def q9 : Def × List Str × List Str := (d9, [(Str.ofString "scan")], [(Str.ofString "scan")])
def q10 : Def × List Str × List Str := (d10, [(Str.ofString "self"), (Str.ofString "most"), (Str.ofString "least"), (Str.ofString "greatest"), (Str.ofString "found")], [(Str.ofString "self"), (Str.ofString "most"), (Str.ofString "least"), (Str.ofString "greatest")])
def q11 : Def × List Str × List Str := (d11, [(Str.ofString "scan"), (Str.ofString "name")], [(Str.ofString "scan")])
def q12 : Def × List Str × List Str := (d12, [(Str.ofString "scan")], [(Str.ofString "scan")])
def q13 : Def × List Str × List Str := (d13, [(Str.ofString "scan"), (Str.ofString "name")], [(Str.ofString "scan")])
def q14 : Def × List Str × List Str := (d14, [(Str.ofString "self"), (Str.ofString "word"), (Str.ofString "many")], [(Str.ofString "self"), (Str.ofString "word")])
def q15 : Def × List Str × List Str := (d15, [(Str.ofString "self"), (Str.ofString "words"), (Str.ofString "shared"), (Str.ofString "best"), (Str.ofString "word")], [(Str.ofString "self"), (Str.ofString "words")])
def q16 : Def × List Str × List Str := (d16, [(Str.ofString "scan")], [(Str.ofString "scan")])
def q17 : Def × List Str × List Str := (d17, [(Str.ofString "scan")], [(Str.ofString "scan")])
def q18 : Def × List Str × List Str := (d18, [], [])
def q19 : Def × List Str × List Str := (d19, [(Str.ofString "bag"), (Str.ofString "many"), (Str.ofString "first"), (Str.ofString "second"), (Str.ofString "cell"), (Str.ofString "stirred"), (Str.ofString "value")], [(Str.ofString "bag"), (Str.ofString "many")])
def q20 : Def × List Str × List Str := (d20, [(Str.ofString "bag"), (Str.ofString "things")], [(Str.ofString "bag"), (Str.ofString "things")])
def q21 : Def × List Str × List Str := (d21, [(Str.ofString "bag"), (Str.ofString "text"), (Str.ofString "at"), (Str.ofString "sign"), (Str.ofString "some")], [(Str.ofString "bag"), (Str.ofString "text")])
def q22 : Def × List Str × List Str := (d22, [(Str.ofString "bag"), (Str.ofString "kind"), (Str.ofString "word"), (Str.ofString "name"), (Str.ofString "words"), (Str.ofString "least"), (Str.ofString "most"), (Str.ofString "many"), (Str.ofString "row"), (Str.ofString "k")], [(Str.ofString "bag")])
def q23 : Def × List Str × List Str := (d23, [(Str.ofString "self"), (Str.ofString "text")], [(Str.ofString "self"), (Str.ofString "text")])
def q24 : Def × List Str × List Str := (d24, [(Str.ofString "self")], [(Str.ofString "self")])
def q25 : Def × List Str × List Str := (d25, [(Str.ofString "scan"), (Str.ofString "act")], [(Str.ofString "scan"), (Str.ofString "act")])
def q26 : Def × List Str × List Str := (d26, [(Str.ofString "text"), (Str.ofString "at"), (Str.ofString "word"), (Str.ofString "over"), (Str.ofString "k"), (Str.ofString "sign")], [(Str.ofString "text"), (Str.ofString "at"), (Str.ofString "word")])
def q27 : Def × List Str × List Str := (d27, [], [])
def q28 : Def × List Str × List Str := (d28, [(Str.ofString "text"), (Str.ofString "at"), (Str.ofString "letters"), (Str.ofString "over"), (Str.ofString "k"), (Str.ofString "name"), (Str.ofString "sign")], [(Str.ofString "text"), (Str.ofString "at")])
def q29 : Def × List Str × List Str := (d29, [(Str.ofString "text"), (Str.ofString "at"), (Str.ofString "words"), (Str.ofString "best"), (Str.ofString "told"), (Str.ofString "word"), (Str.ofString "over"), (Str.ofString "fits")], [(Str.ofString "text"), (Str.ofString "at"), (Str.ofString "words")])
def q30 : Def × List Str × List Str := (d30, [(Str.ofString "text"), (Str.ofString "at"), (Str.ofString "least"), (Str.ofString "most"), (Str.ofString "sign"), (Str.ofString "fits")], [(Str.ofString "text"), (Str.ofString "at"), (Str.ofString "least"), (Str.ofString "most")])
def q31 : Def × List Str × List Str := (d31, [(Str.ofString "text"), (Str.ofString "at"), (Str.ofString "many"), (Str.ofString "least"), (Str.ofString "most"), (Str.ofString "over"), (Str.ofString "found"), (Str.ofString "lap"), (Str.ofString "one"), (Str.ofString "fits"), (Str.ofString "number")], [(Str.ofString "text"), (Str.ofString "at"), (Str.ofString "many"), (Str.ofString "least"), (Str.ofString "most")])
def q32 : Def × List Str × List Str := (d32, [(Str.ofString "text"), (Str.ofString "at"), (Str.ofString "act"), (Str.ofString "kind")], [(Str.ofString "text"), (Str.ofString "at"), (Str.ofString "act")])
def q33 : Def × List Str × List Str := (d33, [(Str.ofString "found"), (Str.ofString "due")], [(Str.ofString "found"), (Str.ofString "due")])
def q34 : Def × List Str × List Str := (d34, [(Str.ofString "bag"), (Str.ofString "parts"), (Str.ofString "text"), (Str.ofString "scan"), (Str.ofString "at"), (Str.ofString "good"), (Str.ofString "act"), (Str.ofString "told"), (Str.ofString "found"), (Str.ofString "k"), (Str.ofString "over"), (Str.ofString "due"), (Str.ofString "shown_so")], [(Str.ofString "bag")])
def q35 : Def × List Str × List Str := (d35, [(Str.ofString "bag"), (Str.ofString "things"), (Str.ofString "found"), (Str.ofString "thing")], [(Str.ofString "bag"), (Str.ofString "things")])
def q36 : Def × List Str × List Str := (d36, [(Str.ofString "text"), (Str.ofString "shapes"), (Str.ofString "reached"), (Str.ofString "shape"), (Str.ofString "scan"), (Str.ofString "value")], [(Str.ofString "text"), (Str.ofString "shapes")])
def q37 : Def × List Str × List Str := (d37, [(Str.ofString "text"), (Str.ofString "takes"), (Str.ofString "best"), (Str.ofString "word"), (Str.ofString "acts"), (Str.ofString "at"), (Str.ofString "good"), (Str.ofString "told"), (Str.ofString "act"), (Str.ofString "over"), (Str.ofString "due"), (Str.ofString "shown_so")], [(Str.ofString "text"), (Str.ofString "takes")])
def q38 : Def × List Str × List Str := (d38, [(Str.ofString "script"), (Str.ofString "bag"), (Str.ofString "lap"), (Str.ofString "takes"), (Str.ofString "shapes"), (Str.ofString "rows"), (Str.ofString "text"), (Str.ofString "some"), (Str.ofString "k")], [(Str.ofString "script")])
def lw : Lw where
  fns := [((Str.ofString "_law_bag"), 0), ((Str.ofString "_law_shape_takes"), 1), ((Str.ofString "take_fold"), 6), ((Str.ofString "is_between"), 7), ((Str.ofString "take_states"), 9), ((Str.ofString "take_event"), 11), ((Str.ofString "take_tells"), 12), ((Str.ofString "take_past"), 13), ((Str.ofString "take_asks"), 16), ((Str.ofString "take_close"), 17), ((Str.ofString "all_shapes"), 18), ((Str.ofString "_law_take"), 19), ((Str.ofString "_law_some"), 20), ((Str.ofString "_law_spoilt"), 21), ((Str.ofString "_law_part"), 22), ((Str.ofString "_law_done"), 25), ((Str.ofString "_law_word_over"), 26), ((Str.ofString "_law_reserved"), 27), ((Str.ofString "_law_name_over"), 28), ((Str.ofString "_law_one_over"), 29), ((Str.ofString "_law_count_over"), 30), ((Str.ofString "_law_row_over"), 31), ((Str.ofString "_law_taken"), 32), ((Str.ofString "_law_alike"), 33), ((Str.ofString "_law_is_gone_right"), 34), ((Str.ofString "_law_mixed"), 35), ((Str.ofString "fitted"), 36), ((Str.ofString "_law_fitted"), 37), ((Str.ofString "law"), 38)]
  cls := [((Str.ofString "Scan"), 0)]
  inits := [(0, 23)]
  cons := [(Str.ofString "LETTERS"), (Str.ofString "DIGITS"), (Str.ofString "MOST_SIGNS"), (Str.ofString "MOST_STATES"), (Str.ofString "MOST_ANSWER"), (Str.ofString "ASKS"), (Str.ofString "RESERVED")]
  free := [(Str.ofString "abs"), (Str.ofString "enumerate"), (Str.ofString "int"), (Str.ofString "len"), (Str.ofString "list"), (Str.ofString "max"), (Str.ofString "min"), (Str.ofString "range"), (Str.ofString "repr"), (Str.ofString "str"), (Str.ofString "tuple")]
  meths := [(0, (Str.ofString "next_sign"), 2), (0, (Str.ofString "take_word"), 3), (0, (Str.ofString "rest_run"), 4), (0, (Str.ofString "take_name"), 5), (0, (Str.ofString "take_count"), 8), (0, (Str.ofString "take_row"), 10), (0, (Str.ofString "shared_with"), 14), (0, (Str.ofString "take_one_of"), 15), (0, (Str.ofString "take_end"), 24)]
  flds := [(Str.ofString "at"), (Str.ofString "good"), (Str.ofString "text")]
def hd : Hd where
  gl := [(Str.ofString "_law_bag"), (Str.ofString "_law_shape_takes"), (Str.ofString "take_fold"), (Str.ofString "is_between"), (Str.ofString "take_states"), (Str.ofString "take_event"), (Str.ofString "take_tells"), (Str.ofString "take_past"), (Str.ofString "take_asks"), (Str.ofString "take_close"), (Str.ofString "all_shapes"), (Str.ofString "_law_take"), (Str.ofString "_law_some"), (Str.ofString "_law_spoilt"), (Str.ofString "_law_part"), (Str.ofString "_law_done"), (Str.ofString "_law_word_over"), (Str.ofString "_law_reserved"), (Str.ofString "_law_name_over"), (Str.ofString "_law_one_over"), (Str.ofString "_law_count_over"), (Str.ofString "_law_row_over"), (Str.ofString "_law_taken"), (Str.ofString "_law_alike"), (Str.ofString "_law_is_gone_right"), (Str.ofString "_law_mixed"), (Str.ofString "fitted"), (Str.ofString "_law_fitted"), (Str.ofString "law"), (Str.ofString "Scan"), (Str.ofString "ASKS"), (Str.ofString "RESERVED")]
  fr := [(Str.ofString "abs"), (Str.ofString "enumerate"), (Str.ofString "int"), (Str.ofString "len"), (Str.ofString "list"), (Str.ofString "max"), (Str.ofString "min"), (Str.ofString "range"), (Str.ofString "repr"), (Str.ofString "str"), (Str.ofString "tuple")]
  strC := [((Str.ofString "LETTERS"), (Str.ofString "abcdefghijklmnopqrstuvwxyz")), ((Str.ofString "DIGITS"), (Str.ofString "0123456789"))]
  intC := [((Str.ofString "MOST_SIGNS"), 8), ((Str.ofString "MOST_STATES"), 4), ((Str.ofString "MOST_ANSWER"), 9)]
  tupC := [((Str.ofString "ASKS"), [.str (Str.ofString "answers"), .str (Str.ofString "moments"), .str (Str.ofString "counts")]), ((Str.ofString "RESERVED"), [.str (Str.ofString "answers"), .str (Str.ofString "asks"), .str (Str.ofString "counts"), .str (Str.ofString "end"), .str (Str.ofString "event"), .str (Str.ofString "fold"), .str (Str.ofString "moments"), .str (Str.ofString "of"), .str (Str.ofString "past"), .str (Str.ofString "states"), .str (Str.ofString "tells")])]
  clN := [(Str.ofString "Scan")]
  noatP := [((Str.ofString "Scan"), (Str.ofString "at")), ((Str.ofString "Scan"), (Str.ofString "good")), ((Str.ofString "Scan"), (Str.ofString "text"))]
  methP := [((Str.ofString "Scan"), (Str.ofString "next_sign")), ((Str.ofString "Scan"), (Str.ofString "take_word")), ((Str.ofString "Scan"), (Str.ofString "rest_run")), ((Str.ofString "Scan"), (Str.ofString "take_name")), ((Str.ofString "Scan"), (Str.ofString "take_count")), ((Str.ofString "Scan"), (Str.ofString "take_row")), ((Str.ofString "Scan"), (Str.ofString "shared_with")), ((Str.ofString "Scan"), (Str.ofString "take_one_of")), ((Str.ofString "Scan"), (Str.ofString "take_end"))]
  mkrN := [(Str.ofString "Scan")]
  fn := [h0, h1, h2, h3, h4, h5, h6, h7, h8, h9, h10, h11, h12, h13, h14, h15, h16, h17, h18, h19, h20, h21, h22, h23, h24, h25, h26, h27, h28, h29, h30, h31, h32, h33, h34, h35, h36, h37, h38]
  qs := [q0, q1, q2, q3, q4, q5, q6, q7, q8, q9, q10, q11, q12, q13, q14, q15, q16, q17, q18, q19, q20, q21, q22, q23, q24, q25, q26, q27, q28, q29, q30, q31, q32, q33, q34, q35, q36, q37, q38]
  con := con
  L := lw
def loose : List Str := ((["_law_bag", "_law_shape_takes", "take_fold", "is_between", "take_states", "take_event", "take_tells", "take_past", "take_asks", "take_close", "all_shapes", "_law_take", "_law_some", "_law_spoilt", "_law_part", "_law_done", "_law_word_over", "_law_reserved", "_law_name_over", "_law_one_over", "_law_count_over", "_law_row_over", "_law_taken", "_law_alike", "_law_is_gone_right", "_law_mixed", "fitted", "_law_fitted", "Scan", "ASKS", "DIGITS", "LETTERS", "MOST_ANSWER", "MOST_SIGNS", "MOST_STATES"] : List String).map Str.ofString) ++ ((["RESERVED"] : List String).map Str.ofString)
abbrev R : PySem.W.OpenRow := PySem.W.OpenLaw.row PySem.Challenge.rw_pastfolds_k02_lines_gone_over_sign_by_si
theorem run (w : World) : HandSHeadRun.RunEq R (PySem.W.view R.prog [39]) (hkE hd) (obT hd) 20000 loose w := by
  intro os
  kernel_rfl
end EvL
end
section
set_option Elab.async false
set_option linter.all false
set_option maxRecDepth 100000
set_option maxHeartbeats 0
namespace EvL
open PySem PySem.Spec PyProof.Rows L2 Ev
theorem chk_ok : hd.chk = true := by decide +kernel
theorem c0 : (⟨d0, q0.2.1, q0.2.2, h0.body, h0.scope⟩ : Dt).ok lw (hd.sys.tb 0) = true := by decide +kernel
theorem c1 : (⟨d1, q1.2.1, q1.2.2, h1.body, h1.scope⟩ : Dt).ok lw (hd.sys.tb 1) = true := by decide +kernel
theorem c2 : (⟨d2, q2.2.1, q2.2.2, h2.body, h2.scope⟩ : Dt).ok lw (hd.sys.tb 2) = true := by decide +kernel
theorem c3 : (⟨d3, q3.2.1, q3.2.2, h3.body, h3.scope⟩ : Dt).ok lw (hd.sys.tb 3) = true := by decide +kernel
theorem c4 : (⟨d4, q4.2.1, q4.2.2, h4.body, h4.scope⟩ : Dt).ok lw (hd.sys.tb 4) = true := by decide +kernel
theorem c5 : (⟨d5, q5.2.1, q5.2.2, h5.body, h5.scope⟩ : Dt).ok lw (hd.sys.tb 5) = true := by decide +kernel
theorem c6 : (⟨d6, q6.2.1, q6.2.2, h6.body, h6.scope⟩ : Dt).ok lw (hd.sys.tb 6) = true := by decide +kernel
theorem c7 : (⟨d7, q7.2.1, q7.2.2, h7.body, h7.scope⟩ : Dt).ok lw (hd.sys.tb 7) = true := by decide +kernel
theorem c8 : (⟨d8, q8.2.1, q8.2.2, h8.body, h8.scope⟩ : Dt).ok lw (hd.sys.tb 8) = true := by decide +kernel
theorem c9 : (⟨d9, q9.2.1, q9.2.2, h9.body, h9.scope⟩ : Dt).ok lw (hd.sys.tb 9) = true := by decide +kernel
theorem c10 : (⟨d10, q10.2.1, q10.2.2, h10.body, h10.scope⟩ : Dt).ok lw (hd.sys.tb 10) = true := by decide +kernel
theorem c11 : (⟨d11, q11.2.1, q11.2.2, h11.body, h11.scope⟩ : Dt).ok lw (hd.sys.tb 11) = true := by decide +kernel
theorem c12 : (⟨d12, q12.2.1, q12.2.2, h12.body, h12.scope⟩ : Dt).ok lw (hd.sys.tb 12) = true := by decide +kernel
theorem c13 : (⟨d13, q13.2.1, q13.2.2, h13.body, h13.scope⟩ : Dt).ok lw (hd.sys.tb 13) = true := by decide +kernel
theorem c14 : (⟨d14, q14.2.1, q14.2.2, h14.body, h14.scope⟩ : Dt).ok lw (hd.sys.tb 14) = true := by decide +kernel
theorem c15 : (⟨d15, q15.2.1, q15.2.2, h15.body, h15.scope⟩ : Dt).ok lw (hd.sys.tb 15) = true := by decide +kernel
theorem c16 : (⟨d16, q16.2.1, q16.2.2, h16.body, h16.scope⟩ : Dt).ok lw (hd.sys.tb 16) = true := by decide +kernel
theorem c17 : (⟨d17, q17.2.1, q17.2.2, h17.body, h17.scope⟩ : Dt).ok lw (hd.sys.tb 17) = true := by decide +kernel
theorem c18 : (⟨d18, q18.2.1, q18.2.2, h18.body, h18.scope⟩ : Dt).ok lw (hd.sys.tb 18) = true := by decide +kernel
theorem c19 : (⟨d19, q19.2.1, q19.2.2, h19.body, h19.scope⟩ : Dt).ok lw (hd.sys.tb 19) = true := by decide +kernel
theorem c20 : (⟨d20, q20.2.1, q20.2.2, h20.body, h20.scope⟩ : Dt).ok lw (hd.sys.tb 20) = true := by decide +kernel
theorem c21 : (⟨d21, q21.2.1, q21.2.2, h21.body, h21.scope⟩ : Dt).ok lw (hd.sys.tb 21) = true := by decide +kernel
theorem c22 : (⟨d22, q22.2.1, q22.2.2, h22.body, h22.scope⟩ : Dt).ok lw (hd.sys.tb 22) = true := by decide +kernel
theorem c23 : (⟨d23, q23.2.1, q23.2.2, h23.body, h23.scope⟩ : Dt).ok lw (hd.sys.tb 23) = true := by decide +kernel
theorem c24 : (⟨d24, q24.2.1, q24.2.2, h24.body, h24.scope⟩ : Dt).ok lw (hd.sys.tb 24) = true := by decide +kernel
theorem c25 : (⟨d25, q25.2.1, q25.2.2, h25.body, h25.scope⟩ : Dt).ok lw (hd.sys.tb 25) = true := by decide +kernel
theorem c26 : (⟨d26, q26.2.1, q26.2.2, h26.body, h26.scope⟩ : Dt).ok lw (hd.sys.tb 26) = true := by decide +kernel
theorem c27 : (⟨d27, q27.2.1, q27.2.2, h27.body, h27.scope⟩ : Dt).ok lw (hd.sys.tb 27) = true := by decide +kernel
theorem c28 : (⟨d28, q28.2.1, q28.2.2, h28.body, h28.scope⟩ : Dt).ok lw (hd.sys.tb 28) = true := by decide +kernel
theorem c29 : (⟨d29, q29.2.1, q29.2.2, h29.body, h29.scope⟩ : Dt).ok lw (hd.sys.tb 29) = true := by decide +kernel
theorem c30 : (⟨d30, q30.2.1, q30.2.2, h30.body, h30.scope⟩ : Dt).ok lw (hd.sys.tb 30) = true := by decide +kernel
theorem c31 : (⟨d31, q31.2.1, q31.2.2, h31.body, h31.scope⟩ : Dt).ok lw (hd.sys.tb 31) = true := by decide +kernel
theorem c32 : (⟨d32, q32.2.1, q32.2.2, h32.body, h32.scope⟩ : Dt).ok lw (hd.sys.tb 32) = true := by decide +kernel
theorem c33 : (⟨d33, q33.2.1, q33.2.2, h33.body, h33.scope⟩ : Dt).ok lw (hd.sys.tb 33) = true := by decide +kernel
theorem c34 : (⟨d34, q34.2.1, q34.2.2, h34.body, h34.scope⟩ : Dt).ok lw (hd.sys.tb 34) = true := by decide +kernel
theorem c35 : (⟨d35, q35.2.1, q35.2.2, h35.body, h35.scope⟩ : Dt).ok lw (hd.sys.tb 35) = true := by decide +kernel
theorem c36 : (⟨d36, q36.2.1, q36.2.2, h36.body, h36.scope⟩ : Dt).ok lw (hd.sys.tb 36) = true := by decide +kernel
theorem c37 : (⟨d37, q37.2.1, q37.2.2, h37.body, h37.scope⟩ : Dt).ok lw (hd.sys.tb 37) = true := by decide +kernel
theorem c38 : (⟨d38, q38.2.1, q38.2.2, h38.body, h38.scope⟩ : Dt).ok lw (hd.sys.tb 38) = true := by decide +kernel
theorem b0 : BindOk h0 q0.2.2 := ⟨rfl, fun _ _ _ _ _ _ us hl => match us, hl with | [_], _ => rfl⟩
theorem b1 : BindOk h1 q1.2.2 := ⟨rfl, fun _ _ _ _ _ _ us hl => match us, hl with | [], _ => rfl⟩
theorem b2 : BindOk h2 q2.2.2 := ⟨rfl, fun _ _ _ _ _ _ us hl => match us, hl with | [_], _ => rfl⟩
theorem b3 : BindOk h3 q3.2.2 := ⟨rfl, fun _ _ _ _ _ _ us hl => match us, hl with | [_, _], _ => rfl⟩
theorem b4 : BindOk h4 q4.2.2 := ⟨rfl, fun _ _ _ _ _ _ us hl => match us, hl with | [_], _ => rfl⟩
theorem b5 : BindOk h5 q5.2.2 := ⟨rfl, fun _ _ _ _ _ _ us hl => match us, hl with | [_], _ => rfl⟩
theorem b6 : BindOk h6 q6.2.2 := ⟨rfl, fun _ _ _ _ _ _ us hl => match us, hl with | [_], _ => rfl⟩
theorem b7 : BindOk h7 q7.2.2 := ⟨rfl, fun _ _ _ _ _ _ us hl => match us, hl with | [_, _, _], _ => rfl⟩
theorem b8 : BindOk h8 q8.2.2 := ⟨rfl, fun _ _ _ _ _ _ us hl => match us, hl with | [_, _, _], _ => rfl⟩
theorem b9 : BindOk h9 q9.2.2 := ⟨rfl, fun _ _ _ _ _ _ us hl => match us, hl with | [_], _ => rfl⟩
theorem b10 : BindOk h10 q10.2.2 := ⟨rfl, fun _ _ _ _ _ _ us hl => match us, hl with | [_, _, _, _], _ => rfl⟩
theorem b11 : BindOk h11 q11.2.2 := ⟨rfl, fun _ _ _ _ _ _ us hl => match us, hl with | [_], _ => rfl⟩
theorem b12 : BindOk h12 q12.2.2 := ⟨rfl, fun _ _ _ _ _ _ us hl => match us, hl with | [_], _ => rfl⟩
theorem b13 : BindOk h13 q13.2.2 := ⟨rfl, fun _ _ _ _ _ _ us hl => match us, hl with | [_], _ => rfl⟩
theorem b14 : BindOk h14 q14.2.2 := ⟨rfl, fun _ _ _ _ _ _ us hl => match us, hl with | [_, _], _ => rfl⟩
theorem b15 : BindOk h15 q15.2.2 := ⟨rfl, fun _ _ _ _ _ _ us hl => match us, hl with | [_, _], _ => rfl⟩
theorem b16 : BindOk h16 q16.2.2 := ⟨rfl, fun _ _ _ _ _ _ us hl => match us, hl with | [_], _ => rfl⟩
theorem b17 : BindOk h17 q17.2.2 := ⟨rfl, fun _ _ _ _ _ _ us hl => match us, hl with | [_], _ => rfl⟩
theorem b18 : BindOk h18 q18.2.2 := ⟨rfl, fun _ _ _ _ _ _ us hl => match us, hl with | [], _ => rfl⟩
theorem b19 : BindOk h19 q19.2.2 := ⟨rfl, fun _ _ _ _ _ _ us hl => match us, hl with | [_, _], _ => rfl⟩
theorem b20 : BindOk h20 q20.2.2 := ⟨rfl, fun _ _ _ _ _ _ us hl => match us, hl with | [_, _], _ => rfl⟩
theorem b21 : BindOk h21 q21.2.2 := ⟨rfl, fun _ _ _ _ _ _ us hl => match us, hl with | [_, _], _ => rfl⟩
theorem b22 : BindOk h22 q22.2.2 := ⟨rfl, fun _ _ _ _ _ _ us hl => match us, hl with | [_], _ => rfl⟩
theorem b23 : BindOk h23 q23.2.2 := ⟨rfl, fun _ _ _ _ _ _ us hl => match us, hl with | [_, _], _ => rfl⟩
theorem b24 : BindOk h24 q24.2.2 := ⟨rfl, fun _ _ _ _ _ _ us hl => match us, hl with | [_], _ => rfl⟩
theorem b25 : BindOk h25 q25.2.2 := ⟨rfl, fun _ _ _ _ _ _ us hl => match us, hl with | [_, _], _ => rfl⟩
theorem b26 : BindOk h26 q26.2.2 := ⟨rfl, fun _ _ _ _ _ _ us hl => match us, hl with | [_, _, _], _ => rfl⟩
theorem b27 : BindOk h27 q27.2.2 := ⟨rfl, fun _ _ _ _ _ _ us hl => match us, hl with | [], _ => rfl⟩
theorem b28 : BindOk h28 q28.2.2 := ⟨rfl, fun _ _ _ _ _ _ us hl => match us, hl with | [_, _], _ => rfl⟩
theorem b29 : BindOk h29 q29.2.2 := ⟨rfl, fun _ _ _ _ _ _ us hl => match us, hl with | [_, _, _], _ => rfl⟩
theorem b30 : BindOk h30 q30.2.2 := ⟨rfl, fun _ _ _ _ _ _ us hl => match us, hl with | [_, _, _, _], _ => rfl⟩
theorem b31 : BindOk h31 q31.2.2 := ⟨rfl, fun _ _ _ _ _ _ us hl => match us, hl with | [_, _, _, _, _], _ => rfl⟩
theorem b32 : BindOk h32 q32.2.2 := ⟨rfl, fun _ _ _ _ _ _ us hl => match us, hl with | [_, _, _], _ => rfl⟩
theorem b33 : BindOk h33 q33.2.2 := ⟨rfl, fun _ _ _ _ _ _ us hl => match us, hl with | [_, _], _ => rfl⟩
theorem b34 : BindOk h34 q34.2.2 := ⟨rfl, fun _ _ _ _ _ _ us hl => match us, hl with | [_], _ => rfl⟩
theorem b35 : BindOk h35 q35.2.2 := ⟨rfl, fun _ _ _ _ _ _ us hl => match us, hl with | [_, _], _ => rfl⟩
theorem b36 : BindOk h36 q36.2.2 := ⟨rfl, fun _ _ _ _ _ _ us hl => match us, hl with | [_, _], _ => rfl⟩
theorem b37 : BindOk h37 q37.2.2 := ⟨rfl, fun _ _ _ _ _ _ us hl => match us, hl with | [_, _], _ => rfl⟩
theorem b38 : BindOk h38 q38.2.2 := ⟨rfl, fun _ _ _ _ _ _ us hl => match us, hl with | [_], _ => rfl⟩
theorem binds : ∀ p ∈ hd.fn.zip hd.qs, BindOk p.1 p.2.2.2 := List.forall_mem_cons.mpr ⟨b0, List.forall_mem_cons.mpr ⟨b1, List.forall_mem_cons.mpr ⟨b2, List.forall_mem_cons.mpr ⟨b3, List.forall_mem_cons.mpr ⟨b4, List.forall_mem_cons.mpr ⟨b5, List.forall_mem_cons.mpr ⟨b6, List.forall_mem_cons.mpr ⟨b7, List.forall_mem_cons.mpr ⟨b8, List.forall_mem_cons.mpr ⟨b9, List.forall_mem_cons.mpr ⟨b10, List.forall_mem_cons.mpr ⟨b11, List.forall_mem_cons.mpr ⟨b12, List.forall_mem_cons.mpr ⟨b13, List.forall_mem_cons.mpr ⟨b14, List.forall_mem_cons.mpr ⟨b15, List.forall_mem_cons.mpr ⟨b16, List.forall_mem_cons.mpr ⟨b17, List.forall_mem_cons.mpr ⟨b18, List.forall_mem_cons.mpr ⟨b19, List.forall_mem_cons.mpr ⟨b20, List.forall_mem_cons.mpr ⟨b21, List.forall_mem_cons.mpr ⟨b22, List.forall_mem_cons.mpr ⟨b23, List.forall_mem_cons.mpr ⟨b24, List.forall_mem_cons.mpr ⟨b25, List.forall_mem_cons.mpr ⟨b26, List.forall_mem_cons.mpr ⟨b27, List.forall_mem_cons.mpr ⟨b28, List.forall_mem_cons.mpr ⟨b29, List.forall_mem_cons.mpr ⟨b30, List.forall_mem_cons.mpr ⟨b31, List.forall_mem_cons.mpr ⟨b32, List.forall_mem_cons.mpr ⟨b33, List.forall_mem_cons.mpr ⟨b34, List.forall_mem_cons.mpr ⟨b35, List.forall_mem_cons.mpr ⟨b36, List.forall_mem_cons.mpr ⟨b37, List.forall_mem_cons.mpr ⟨b38, List.forall_mem_nil _⟩⟩⟩⟩⟩⟩⟩⟩⟩⟩⟩⟩⟩⟩⟩⟩⟩⟩⟩⟩⟩⟩⟩⟩⟩⟩⟩⟩⟩⟩⟩⟩⟩⟩⟩⟩⟩⟩⟩
theorem oks : ∀ (j : Nat) (t : Dt), hd.sys.defs[j]? = some t → t.ok hd.L (hd.sys.tb j) = true := by
  intro j t e
  match j, e with
  | 0, e => cases e; exact c0
  | 1, e => cases e; exact c1
  | 2, e => cases e; exact c2
  | 3, e => cases e; exact c3
  | 4, e => cases e; exact c4
  | 5, e => cases e; exact c5
  | 6, e => cases e; exact c6
  | 7, e => cases e; exact c7
  | 8, e => cases e; exact c8
  | 9, e => cases e; exact c9
  | 10, e => cases e; exact c10
  | 11, e => cases e; exact c11
  | 12, e => cases e; exact c12
  | 13, e => cases e; exact c13
  | 14, e => cases e; exact c14
  | 15, e => cases e; exact c15
  | 16, e => cases e; exact c16
  | 17, e => cases e; exact c17
  | 18, e => cases e; exact c18
  | 19, e => cases e; exact c19
  | 20, e => cases e; exact c20
  | 21, e => cases e; exact c21
  | 22, e => cases e; exact c22
  | 23, e => cases e; exact c23
  | 24, e => cases e; exact c24
  | 25, e => cases e; exact c25
  | 26, e => cases e; exact c26
  | 27, e => cases e; exact c27
  | 28, e => cases e; exact c28
  | 29, e => cases e; exact c29
  | 30, e => cases e; exact c30
  | 31, e => cases e; exact c31
  | 32, e => cases e; exact c32
  | 33, e => cases e; exact c33
  | 34, e => cases e; exact c34
  | 35, e => cases e; exact c35
  | 36, e => cases e; exact c36
  | 37, e => cases e; exact c37
  | 38, e => cases e; exact c38
  | j + 39, e => cases e
def td : Dt := ⟨d38, q38.2.1, q38.2.2, h38.body, h38.scope⟩
end EvL
end
section
set_option Elab.async false
set_option linter.all false
set_option maxRecDepth 100000
set_option maxHeartbeats 4000000
/-! plain lemmas on the evaluator: no heap, no program -/
namespace Ev
open PySem PySem.Spec L2
section
variable {α β : Type}
theorem bind_ok' (a : α) (ρ : Rho) (f : α → Rho → Res β) : (Res.ok a ρ).bind f = f a ρ := rfl
theorem bind_exc' (x : D) (ρ : Rho) (f : α → Rho → Res β) : (Res.exc x ρ : Res α).bind f = .exc x ρ := rfl
theorem bind_bad' (f : α → Rho → Res β) : (Res.bad : Res α).bind f = .bad := rfl
theorem then_ok (a : α) (ρ : Rho) (f : α → Rho → SR) : (Res.ok a ρ).then f = f a ρ := rfl
theorem then_bad (f : α → Rho → SR) : (Res.bad : Res α).then f = .bad := rfl
end
theorem seq_nx (ρ : Rho) (f : Rho → SR) : (SR.nx ρ).seq f = f ρ := rfl
theorem seq_rt (d : D) (l : Nat) (ρ : Rho) (f : Rho → SR) : (SR.rt d l ρ).seq f = .rt d l ρ := rfl
theorem seq_bk (ρ : Rho) (f : Rho → SR) : (SR.bk ρ).seq f = .bk ρ := rfl
theorem seq_ct (ρ : Rho) (f : Rho → SR) : (SR.ct ρ).seq f = .ct ρ := rfl
theorem lift_some {α : Type} (a : α) (ρ : Rho) : lift (some a) ρ = .ok a ρ := rfl
theorem o_eq {T : Tb} {ps : List Nat} {ce : CE} (h1 : valE ce = true) (h2 : notVar ce = true) (ρ : Rho) : (ev T ps ce).o ρ = frzV ((ev T ps ce).f ρ) := by
  cases ce <;> first | rfl | (cases h1; done) | (cases h2; done)
/-- a comprehension's value -/
theorem lc_f {T : Tb} {ps own : List Nat} {t : CT} {it ifs e : CE} {ρ ρ1 ρ2 : Rho} {ds xs : List D} (h1 : (ev T ps it).it ρ = .ok ds ρ1) (h2 : compLoop own (bindT ps t) (ifsT ifs (ev T ps ifs).t) (ev T ps e).f ds ρ1 [] = .ok xs ρ2) :
    (ev T ps (.lc own t it ifs e)).f ρ = .ok (.lst xs, 1) (backR ρ1 ρ2 own) := by
  simp only [ev, mkR, h1, bind_ok', h2, noexc]
/-- one name, no test: the element changes nothing -/
theorem compLoop_map {i : Nat} {ρ0 : Rho} {bd : D → Rho → Option Rho} {t : Rho → Res Bool} {f : Rho → Res (D × Nat)} {g : D → D} {P : D → Prop}
    (h : ∀ d, P d → ∃ ρ1 l, bd d (ρ0.set i none) = some ρ1 ∧ t ρ1 = .ok true ρ1 ∧ f ρ1 = .ok (g d, l) ρ1 ∧ ρ1.set i none = ρ0.set i none) :
    ∀ (ds : List D) (ρ : Rho) (acc : List D), (∀ d ∈ ds, P d) → acc.length + ds.length ≤ LIM → ρ.set i none = ρ0.set i none → ∃ ρ', compLoop [i] bd t f ds ρ acc = .ok (acc ++ ds.map g) ρ' ∧ ρ'.set i none = ρ0.set i none
  | [], ρ, acc, _, _, e => ⟨ρ, by simp [compLoop], e⟩
  | d :: ds, ρ, acc, hp, hl, e => by
    obtain ⟨ρ1, l, h1, h2, h3, h4⟩ := h d (hp d List.mem_cons_self)
    have hlt : acc.length < LIM := by simp only [List.length_cons] at hl; omega
    obtain ⟨ρ', h5, h6⟩ := compLoop_map h ds ρ1 (acc ++ [g d]) (fun d hd => hp d (List.mem_cons_of_mem _ hd)) (by simp only [List.length_append, List.length_cons, List.length_nil] at hl ⊢; omega) h4
    refine ⟨ρ', ?_, h6⟩
    simp only [compLoop, wipeR, e, h1, h2, bind_ok', h3, if_true, hlt, h5]
    simp
theorem cutL_take {α : Type} (xs : List α) (n : Nat) : cutL xs none (some (n : Int)) = xs.take n := by
  unfold cutL
  have h0 : HT.sIx xs.length 0 none = 0 := rfl
  rw [h0, List.drop_zero, Nat.sub_zero]
  have h1 : HT.sIx xs.length xs.length (some (n : Int)) = min n xs.length := by
    unfold HT.sIx
    simp
    try omega
  rw [h1, List.take_eq_take_iff]
  omega
theorem cutL_drop {α : Type} (xs : List α) (n : Nat) : cutL xs (some (n : Int)) none = xs.drop n := by
  unfold cutL
  have h0 : HT.sIx xs.length xs.length none = xs.length := rfl
  have h1 : HT.sIx xs.length 0 (some (n : Int)) = min n xs.length := by
    unfold HT.sIx
    simp
    try omega
  rw [h0, h1]
  rw [List.take_of_length_le (by rw [List.length_drop]; exact Nat.le_refl _)]
  by_cases h : n ≤ xs.length
  · rw [Nat.min_eq_left h]
  · rw [Nat.min_eq_right (by omega), List.drop_eq_nil_of_le (Nat.le_refl _), List.drop_eq_nil_of_le (by omega)]
/-- a def's end -/
def finR (io : List Bool) : SR → FR
  | .nx ρ => .ok .non 0 (maskR io ρ)
  | .rt r l ρ => .ok r l (maskR io ρ)
  | .exc x ρ => .exc x (maskR io ρ)
  | _ => .bad
theorem runDef_eq {T : Tb} {d : Def} {args : List D} (h : args.length = d.np) : runDef T d args = finR d.io (evS T d.ps d.body (startR d args)) := by
  unfold runDef
  rw [if_pos h]
  cases evS T d.ps d.body (startR d args) <;> rfl
theorem call_ok {T : Tb} {j : Nat} {os : List Opd} {ρ ρ' : Rho} {ds : List D} {d : D} {l : Nat} {outs : List Slt} {io : List Bool} (h0 : T.io j = io) (h1 : fitIo io os [] = true) (h2 : rdOs ρ os = some ds) (h3 : T.run j ds = .ok d l outs) (h4 : putBack io os outs ρ = some ρ') :
    callR T j os ρ = .ok (d, l) ρ' := by
  unfold callR
  rw [h0, if_pos h1]
  simp only [h2, h3, h4]
end Ev
end
section
set_option Elab.async false
set_option linter.all false
set_option maxRecDepth 100000
set_option maxHeartbeats 4000000
namespace EvL
open PySem PySem.Spec L2 Ev
def ds : List Def := [d0, d1, d2, d3, d4, d5, d6, d7, d8, d9, d10, d11, d12, d13, d14, d15, d16, d17, d18, d19, d20, d21, d22, d23, d24, d25, d26, d27, d28, d29, d30, d31, d32, d33, d34, d35, d36, d37, d38]
def mkP (d : Def) : Dt := ⟨d, [], [], [], default⟩
def sysP : Sys := ⟨ds.map mkP, con⟩
theorem getP {j : Nat} {d : Def} (e : ds[j]? = some d) : sysP.defs[j]? = some (mkP d) := by
  show (ds.map mkP)[j]? = _
  rw [List.getElem?_map, e]; rfl
theorem runP {n j : Nat} {d : Def} (h : j < n) (e : ds[j]? = some d) : (sysP.tb n).run j = runDef (sysP.tb j) d := by
  induction n with
  | zero => omega
  | succ n ih =>
    show (if j = n then _ else _) = _
    by_cases q : j = n
    · subst q
      rw [if_pos rfl, getP e]; rfl
    · rw [if_neg q]; exact ih (by omega)
theorem ioP {n j : Nat} {d : Def} (e : ds[j]? = some d) : (sysP.tb n).io j = d.io := by
  rw [Sys.tb_io]
  unfold Sys.io
  rw [getP e]; rfl
theorem nP (n : Nat) : (sysP.tb n).n = n := Sys.tb_n _ _
theorem conP (n : Nat) : (sysP.tb n).con = con := Sys.tb_con _ _
theorem LIMn : LIM = 16777216 := rfl
def cell (i : Int) : Int := if i < 0 then -i else i
/-- the bag -/
structure B where
  b0 : Int
  b1 : Int
  b2 : Nat
  cs : List Int
def bagD (b : B) : D := .lst [.int b.b0, .int b.b1, .int b.b2, .lst (b.cs.map D.int)]
def bag0 (ns : List Int) : B := ⟨0, 1234567891, 0, (ns.take 63).map cell⟩
theorem r0 (T : Tb) (ns : List Int) : runDef T d0 [.scr ns] = .ok (bagD (bag0 ns)) 1 [none] := by
  obtain ⟨ρ', h1, h2⟩ := compLoop_map (i := 1) (ρ0 := [some (D.scr ns, 0), none]) (bd := bindT [] (.nm 1)) (t := ifsT .nil (ev T [] .nil).t) (f := (ev T [] p0_0).f) (g := fun d => match d with
      | .int i => .int (cell i)
      | d => d) (P := fun d => ∃ i, d = .int i) (by
    rintro d ⟨i, rfl⟩
    refine ⟨[some (D.scr ns, 0), some (.int i, 0)], 0, ?_, rfl, ?_, ?_⟩
    · simp [bindT]
    · simp [ev, evS, mkR, consR, opd, varO, varF, pureF, retV, frzV, tstO, lift_some, bltO, rdOs, rdO, val1, val2, bool0, optI, seqItems, truD, ifsT, bind_ok', then_ok, seq_nx, seq_rt, seq_bk, seq_ct, asgT, setO, getO, ipD, mutOk, mutR, LIMn, p0_0, bltD, blt1, absD, cell]
    · simp) ((ns.map D.int).take 63) [some (D.scr ns, 0), none] [] (by
      intro d hd
      obtain ⟨i, _, rfl⟩ := List.mem_map.mp (List.mem_of_mem_take hd)
      exact ⟨i, rfl⟩) (by
      have : ((ns.map D.int).take 63).length ≤ 63 := List.length_take_le _ _
      simp only [List.length_nil]
      have e : LIM = 16777216 := rfl
      omega) rfl
  have hit : (ev T [] (.slc (.var 0) .nil (.int 63))).it [some (D.scr ns, 0), none] = .ok ((ns.map D.int).take 63) [some (D.scr ns, 0), none] := by
    have := cutL_take (ns.map D.int) 63
    simp [ev, evS, mkR, consR, opd, varO, varF, pureF, retV, frzV, tstO, lift_some, bltO, rdOs, rdO, val1, val2, bool0, optI, seqItems, truD, ifsT, bind_ok', then_ok, seq_nx, seq_rt, seq_bk, seq_ct, asgT, setO, getO, ipD, mutOk, mutR, LIMn, slcD]
    exact this
  have hlc := lc_f (ps := []) (own := [1]) (t := .nm 1) hit h1
  have hb : backR [some (D.scr ns, 0), none] ρ' [1] = [some (D.scr ns, 0), none] := by
    simp [backR, h2]
  have hps : d0.ps = [] := rfl
  have hp : (ev T [] p0_1).f [some (D.scr ns, 0), none] = .ok (.lst (((ns.map D.int).take 63).map fun d => match d with
      | .int i => .int (cell i)
      | d => d), 1) [some (D.scr ns, 0), none] := by
    rw [hb] at hlc
    exact hlc
  have e : startR d0 [.scr ns] = [some (D.scr ns, 0), none] := rfl
  rw [runDef_eq rfl, hps, e]
  simp [ev, evS, mkR, consR, opd, varO, varF, pureF, retV, frzV, tstO, lift_some, bltO, rdOs, rdO, val1, val2, bool0, optI, seqItems, truD, ifsT, bind_ok', then_ok, seq_nx, seq_rt, seq_bk, seq_ct, asgT, setO, getO, ipD, mutOk, mutR, LIMn, d0, hp, bagD, bag0, maskR, finR]
  rfl
def at0 (b : B) : Int := b.cs.getD b.b2 0
/-- the bag, stirred -/
def stir (b : B) : B := if b.b0 = 0 then ⟨if 10 ^ 18 ≤ at0 b then at0 b else 0, (b.b1 * 48271 + at0 b % 2147483647 + 7919 * (b.b2 + 1)) % 2147483647, b.b2 + 1, b.cs⟩ else b
def tkV (b : B) (m : Int) : Int := if 0 < (stir b).b0 then (stir b).b0 % m else ((((((stir b).b1 + 1) * 39373 % 1000000007) * (((stir b).b1 + 1) * 39373 % 1000000007)) % 998244353 * 30011 % 998244353) / 7) % m
def tkB (b : B) (m : Int) : B := if 0 < (stir b).b0 then { stir b with b0 := (stir b).b0 / m } else stir b
/-- what a bag is -/
def Bok (b : B) : Prop := 0 ≤ b.b0 ∧ 0 ≤ b.b1 ∧ b.b1 < 2147483647 ∧ (b.cs.length ≤ 63)
def s1 (b : B) (m : Int) (x : Slt) : Rho := [some (bagD b, 1), some (.int m, 0), none, none, x, none, none]
theorem at_get (b : B) : atI ((b.cs.map D.int).drop b.b2 ++ [.int 0]) 0 = some (.int (at0 b)) := by
  have h0 : (0 : Int) < ((((b.cs.map D.int).drop b.b2 ++ [D.int 0]).length : Nat) : Int) := by simp
  unfold atI ixN at0
  rw [if_pos (Int.le_refl 0), if_pos h0]
  show ((b.cs.map D.int).drop b.b2 ++ [D.int 0])[(0 : Nat)]? = _
  rw [← List.map_drop, List.getD_eq_getElem?_getD]
  cases h : b.cs.drop b.b2 with
  | nil =>
    have : b.cs[b.b2]? = none := by
      rw [List.drop_eq_nil_iff] at h
      exact List.getElem?_eq_none h
    rw [this]; rfl
  | cons x xs =>
    have : b.cs[b.b2]? = some x := by
      have := congrArg (fun l => l[0]?) h
      simpa using this
    rw [this]; rfl
theorem atI0 {α : Type} (x : α) (xs : List α) : atI (x :: xs) 0 = some x := by
  unfold atI ixN
  rw [if_pos (by omega), if_pos (by simp only [List.length_cons]; omega)]; rfl
theorem atI1 {α : Type} (x y : α) (xs : List α) : atI (x :: y :: xs) 1 = some y := by
  unfold atI ixN
  rw [if_pos (by omega), if_pos (by simp only [List.length_cons]; omega)]; rfl
theorem atI2 {α : Type} (x y z : α) (xs : List α) : atI (x :: y :: z :: xs) 2 = some z := by
  unfold atI ixN
  rw [if_pos (by omega), if_pos (by simp only [List.length_cons]; omega)]; rfl
theorem atI3 {α : Type} (x y z w : α) (xs : List α) : atI (x :: y :: z :: w :: xs) 3 = some w := by
  unfold atI ixN
  rw [if_pos (by omega), if_pos (by simp only [List.length_cons]; omega)]; rfl
def p19a : CS := match d19.body with
  | .seq a _ => a
  | _ => .nil
def p19b : CS := match d19.body with
  | .seq _ b => b
  | _ => .nil
theorem t19a (T : Tb) (b : B) (m : Int) (hb : Bok b) (h0 : b.b0 = 0) : evS T [0] p19a [some (bagD b, 1), some (.int m, 0), none, none, none, none, none] = .nx [some (bagD (stir b), 1), some (.int m, 0), none, none, some (.int (at0 b), 0), some (.int (b.b1 * 48271 + at0 b % 2147483647 + 7919 * (b.b2 + 1)), 0), none] := by
  have ha := at_get b
  have hd := cutL_drop (b.cs.map D.int) b.b2
  have hl := hb.2.2.2
  have h1 := hb.2.1
  have h2 := hb.2.2.1
  obtain ⟨c0, c1, c2, c3⟩ := b
  simp only at h0 ha hd hl h1 h2
  subst h0
  have hle : c3.length ≤ 16777215 + c2 := by omega
  have m1 : -18446744073709551616 < c1 ∧ c1 < 18446744073709551616 := by omega
  generalize hat : at0 ⟨0, c1, c2, c3⟩ = z at ha ⊢
  unfold stir
  simp only [if_true, hat]
  by_cases hz : (10 : Int) ^ 18 ≤ z
  · have hz' : (1000000000000000000 : Int) ≤ z := by simpa using hz
    simp [ev, evS, mkR, consR, opd, varO, varF, pureF, retV, frzV, tstO, lift_some, bltO, rdOs, rdO, val1, val2, bool0, optI, seqItems, truD, ifsT, bind_ok', then_ok, seq_nx, seq_rt, seq_bk, seq_ct, asgT, setO, getO, ipD, mutOk, mutR, LIMn, bagD, cmpD, eqE, okD, okAt, eqD, py, PyData.eqv, ixD, atI0, atI1, atI2, atI3, slcD, binD, bltD, blt1, intD, mulOk, setD, ixN, p19a, d19, hd, hle, ha, m1, hz', hz]
  · have hz' : ¬ (1000000000000000000 : Int) ≤ z := by simpa using hz
    simp [ev, evS, mkR, consR, opd, varO, varF, pureF, retV, frzV, tstO, lift_some, bltO, rdOs, rdO, val1, val2, bool0, optI, seqItems, truD, ifsT, bind_ok', then_ok, seq_nx, seq_rt, seq_bk, seq_ct, asgT, setO, getO, ipD, mutOk, mutR, LIMn, bagD, cmpD, eqE, okD, okAt, eqD, py, PyData.eqv, ixD, atI0, atI1, atI2, atI3, slcD, binD, bltD, blt1, intD, mulOk, setD, ixN, p19a, d19, hd, hle, ha, m1, hz', hz]
theorem t19b (T : Tb) (b : B) (m : Int) (x y : Slt) (hb : Bok b) (h0 : b.b0 ≠ 0) : evS T [0] p19a [some (bagD b, 1), some (.int m, 0), none, none, x, y, none] = .nx [some (bagD b, 1), some (.int m, 0), none, none, x, y, none] := by
  obtain ⟨c0, c1, c2, c3⟩ := b
  simp only at h0
  simp [ev, evS, mkR, consR, opd, varO, varF, pureF, retV, frzV, tstO, lift_some, bltO, rdOs, rdO, val1, val2, bool0, optI, seqItems, truD, ifsT, bind_ok', then_ok, seq_nx, seq_rt, seq_bk, seq_ct, asgT, setO, getO, ipD, mutOk, mutR, LIMn, bagD, cmpD, eqE, okD, okAt, eqD, py, PyData.eqv, ixD, atI0, atI1, atI2, atI3, slcD, binD, bltD, blt1, intD, mulOk, setD, ixN, p19a, d19, h0]
theorem stir_ok {b : B} (hb : Bok b) : Bok (stir b) := by
  unfold stir
  split
  · obtain ⟨h1, h2, h3, h4⟩ := hb
    refine ⟨?_, ?_, ?_, h4⟩
    · show 0 ≤ if 10 ^ 18 ≤ at0 b then at0 b else 0
      split
      · rename_i h
        have : (10 : Int) ^ 18 = 1000000000000000000 := by decide
        omega
      · omega
    · exact Int.emod_nonneg _ (by decide)
    · exact Int.emod_lt_of_pos _ (by decide)
  · exact hb
theorem t19c (T : Tb) (b : B) (m : Int) (x y : Slt) (hb : Bok b) (h0 : 0 < b.b0) (hm : 1 ≤ m) (hm2 : m < 1073741824) : evS T [0] p19b [some (bagD b, 1), some (.int m, 0), none, none, x, y, none] = .rt (.int (b.b0 % m)) 0 [some (bagD { b with b0 := b.b0 / m }, 1), some (.int m, 0), none, none, x, y, none] := by
  obtain ⟨c0, c1, c2, c3⟩ := b
  simp only at h0
  have hm0 : 0 < m := by omega
  simp [ev, evS, mkR, consR, opd, varO, varF, pureF, retV, frzV, tstO, lift_some, bltO, rdOs, rdO, val1, val2, bool0, optI, seqItems, truD, ifsT, bind_ok', then_ok, seq_nx, seq_rt, seq_bk, seq_ct, asgT, setO, getO, ipD, mutOk, mutR, LIMn, bagD, cmpD, eqE, okD, okAt, eqD, py, PyData.eqv, ixD, atI0, atI1, atI2, atI3, slcD, binD, bltD, blt1, intD, mulOk, setD, ixN, p19b, d19, h0, hm0, hm2]
def fst19 (b : B) : Int := (b.b1 + 1) * 39373 % 1000000007
def snd19 (b : B) : Int := fst19 b * fst19 b % 998244353 * 30011 % 998244353
theorem t19d (T : Tb) (b : B) (m : Int) (x y : Slt) (hb : Bok b) (h0 : ¬ 0 < b.b0) (hm : 1 ≤ m) (hm2 : m < 1073741824) : evS T [0] p19b [some (bagD b, 1), some (.int m, 0), none, none, x, y, none] = .rt (.int (snd19 b / 7 % m)) 0 [some (bagD b, 1), some (.int m, 0), some (.int (fst19 b), 0), some (.int (snd19 b), 0), x, y, none] := by
  obtain ⟨c0, c1, c2, c3⟩ := b
  simp only at h0
  have hm0 : 0 < m := by omega
  have h1 := hb.2.1
  have h2 := hb.2.2.1
  simp only at h1 h2
  have m1 : -18446744073709551616 < c1 + 1 ∧ c1 + 1 < 18446744073709551616 := by omega
  have m2 : -18446744073709551616 < (c1 + 1) * 39373 % 1000000007 ∧ (c1 + 1) * 39373 % 1000000007 < 18446744073709551616 := by omega
  have m3 : ∀ z : Int, -18446744073709551616 < z % 998244353 ∧ z % 998244353 < 18446744073709551616 := fun z => by omega
  simp [ev, evS, mkR, consR, opd, varO, varF, pureF, retV, frzV, tstO, lift_some, bltO, rdOs, rdO, val1, val2, bool0, optI, seqItems, truD, ifsT, bind_ok', then_ok, seq_nx, seq_rt, seq_bk, seq_ct, asgT, setO, getO, ipD, mutOk, mutR, LIMn, bagD, cmpD, eqE, okD, okAt, eqD, py, PyData.eqv, ixD, atI0, atI1, atI2, atI3, slcD, binD, bltD, blt1, intD, mulOk, setD, ixN, p19b, d19, h0, hm0, hm2, m1, m2, m3, fst19, snd19]
/-- _law_take -/
theorem r19 (T : Tb) (b : B) (m : Int) (hb : Bok b) (hm : 1 ≤ m) (hm2 : m < 1073741824) : ∃ v b', runDef T d19 [bagD b, .int m] = .ok (.int v) 0 [some (bagD b', 1), none] ∧ Bok b' ∧ 0 ≤ v ∧ v < m := by
  have hps : d19.ps = [0] := rfl
  have e : startR d19 [bagD b, .int m] = [some (bagD b, 1), some (.int m, 0), none, none, none, none, none] := rfl
  have hbody : d19.body = .seq p19a p19b := rfl
  have hs : ∃ x y, evS T [0] p19a [some (bagD b, 1), some (.int m, 0), none, none, none, none, none] = .nx [some (bagD (stir b), 1), some (.int m, 0), none, none, x, y, none] := by
    by_cases h0 : b.b0 = 0
    · exact ⟨_, _, t19a T b m hb h0⟩
    · refine ⟨none, none, ?_⟩
      have : stir b = b := by unfold stir; rw [if_neg h0]
      rw [this]
      exact t19b T b m none none hb h0
  obtain ⟨x, y, hs⟩ := hs
  have hb2 := stir_ok hb
  rw [runDef_eq rfl, hps, e, hbody]
  have hseq : evS T [0] (.seq p19a p19b) [some (bagD b, 1), some (.int m, 0), none, none, none, none, none] = evS T [0] p19b [some (bagD (stir b), 1), some (.int m, 0), none, none, x, y, none] := by
    simp only [evS, hs, seq_nx]
  rw [hseq]
  by_cases hp : 0 < (stir b).b0
  · refine ⟨_, { stir b with b0 := (stir b).b0 / m }, by rw [t19c T (stir b) m x y hb2 hp hm hm2]; rfl, ⟨?_, hb2.2⟩, Int.emod_nonneg _ (by omega), Int.emod_lt_of_pos _ (by omega)⟩
    exact Int.ediv_nonneg (by omega) (by omega)
  · exact ⟨_, stir b, by rw [t19d T (stir b) m x y hb2 hp hm hm2]; rfl, hb2, Int.emod_nonneg _ (by omega), Int.emod_lt_of_pos _ (by omega)⟩
end EvL
end
section
set_option Elab.async false
set_option linter.all false
set_option maxRecDepth 100000
set_option maxHeartbeats 4000000
namespace EvL
open PySem PySem.Spec L2 Ev
theorem run19 {n : Nat} (h : 19 < n) : (sysP.tb n).run 19 = runDef (sysP.tb 19) d19 := runP h rfl
theorem io19 (n : Nat) : (sysP.tb n).io 19 = [true, false] := ioP (d := d19) rfl
/-- a call of take, its operands read: the bag in slot i -/
theorem call19 {n : Nat} (hn : 19 < n) {ρ : Rho} {i : Nat} {b : B} {m : Int} (hρ : ρ[i]? = some (some (bagD b, 1))) (hb : Bok b) (hm : 1 ≤ m) (hm2 : m < 1073741824) :
    ∃ v b', callR (sysP.tb n) 19 [.s i, .v (.int m)] ρ = .ok (.int v, 0) (ρ.set i (some (bagD b', 1))) ∧ Bok b' ∧ 0 ≤ v ∧ v < m := by
  obtain ⟨v, b', h1, h2, h3, h4⟩ := r19 (sysP.tb 19) b m hb hm hm2
  refine ⟨v, b', ?_, h2, h3, h4⟩
  refine call_ok (io19 n) rfl ?_ ((congrFun (run19 hn) _).trans h1) rfl
  simp [rdOs, rdO, hρ]
theorem atI_nat {α : Type} {xs : List α} {v : Int} (h0 : 0 ≤ v) (h1 : v < xs.length) : ∃ x, atI xs v = some x ∧ x ∈ xs := by
  unfold atI ixN
  rw [if_pos h0, if_pos h1]
  have : v.toNat < xs.length := by omega
  exact ⟨xs[v.toNat], by simp [this], List.getElem_mem this⟩
/-- _law_some -/
theorem r20 (n : Nat) (hn : 19 < n) (b : B) (ds : List D) (hb : Bok b) (h0 : ds ≠ []) (h1 : ds.length < 1073741824) : ∃ d b', d ∈ ds ∧ Bok b' ∧ runDef (sysP.tb n) d20 [bagD b, .lst ds] = .ok d 0 [some (bagD b', 1), none] := by
  have hps : d20.ps = [0] := rfl
  have e : startR d20 [bagD b, .lst ds] = [some (bagD b, 1), some (.lst ds, 0)] := rfl
  have hl : 0 < ds.length := List.length_pos_iff.mpr h0
  obtain ⟨v, b', hc, hb', v0, v1⟩ := call19 hn (ρ := [some (bagD b, 1), some (.lst ds, 0)]) (i := 0) (b := b) (m := (ds.length : Int)) rfl hb (by omega) (by omega)
  obtain ⟨d, hd, hm⟩ := atI_nat v0 v1
  refine ⟨d, b', hm, hb', ?_⟩
  rw [runDef_eq rfl, hps, e]
  simp [ev, evS, mkR, consR, opd, varO, varF, pureF, retV, frzV, tstO, lift_some, bltO, rdOs, rdO, val1, val2, bool0, optI, seqItems, truD, ifsT, bind_ok', then_ok, seq_nx, seq_rt, seq_bk, seq_ct, asgT, setO, getO, ipD, mutOk, mutR, LIMn, d20, io19, bltD, blt1, lenD, hc, ixD, hd, finR, maskR]
theorem r20t (n : Nat) (hn : 19 < n) (b : B) (ds : List D) (hb : Bok b) (h0 : ds ≠ []) (h1 : ds.length < 1073741824) : ∃ d b', d ∈ ds ∧ Bok b' ∧ runDef (sysP.tb n) d20 [bagD b, .tup ds] = .ok d 0 [some (bagD b', 1), none] := by
  have hps : d20.ps = [0] := rfl
  have e : startR d20 [bagD b, .tup ds] = [some (bagD b, 1), some (.tup ds, 0)] := rfl
  have hl : 0 < ds.length := List.length_pos_iff.mpr h0
  obtain ⟨v, b', hc, hb', v0, v1⟩ := call19 hn (ρ := [some (bagD b, 1), some (.tup ds, 0)]) (i := 0) (b := b) (m := (ds.length : Int)) rfl hb (by omega) (by omega)
  obtain ⟨d, hd, hm⟩ := atI_nat v0 v1
  refine ⟨d, b', hm, hb', ?_⟩
  rw [runDef_eq rfl, hps, e]
  simp [ev, evS, mkR, consR, opd, varO, varF, pureF, retV, frzV, tstO, lift_some, bltO, rdOs, rdO, val1, val2, bool0, optI, seqItems, truD, ifsT, bind_ok', then_ok, seq_nx, seq_rt, seq_bk, seq_ct, asgT, setO, getO, ipD, mutOk, mutR, LIMn, d20, io19, bltD, blt1, lenD, hc, ixD, hd, finR, maskR]
theorem run20 {n : Nat} (h : 20 < n) : (sysP.tb n).run 20 = runDef (sysP.tb 20) d20 := runP h rfl
theorem io20 (n : Nat) : (sysP.tb n).io 20 = [true, false] := ioP (d := d20) rfl
theorem call20 {n : Nat} (hn : 20 < n) {ρ : Rho} {i : Nat} {b : B} {ds : List D} (hρ : ρ[i]? = some (some (bagD b, 1))) (hb : Bok b) (h0 : ds ≠ []) (h1 : ds.length < 1073741824) :
    ∃ d b', callR (sysP.tb n) 20 [.s i, .v (.lst ds)] ρ = .ok (d, 0) (ρ.set i (some (bagD b', 1))) ∧ Bok b' ∧ d ∈ ds := by
  obtain ⟨d, b', h1, h2, h3⟩ := r20 20 (by omega) b ds hb h0 h1
  refine ⟨d, b', ?_, h2, h1⟩
  refine call_ok (io20 n) rfl ?_ ((congrFun (run20 hn) _).trans h3) rfl
  simp [rdOs, rdO, hρ]
end EvL
end
section
set_option Elab.async false
set_option linter.all false
set_option maxRecDepth 100000
set_option maxHeartbeats 4000000
namespace EvL
open PySem PySem.Spec L2 Ev
/-! texts as lists of signs -/
def st (l : List Nat) : Str := ⟨l.toArray⟩
def tx (l : List Nat) : D := .str (st l)
theorem st_len (l : List Nat) : (st l).length = l.length := by simp [st, Str.length]
theorem st_list (l : List Nat) : (st l).cps.toList = l := by simp [st]
theorem st_app (l m : List Nat) : st l ++ st m = st (l ++ m) := by
  show (⟨(st l).cps ++ (st m).cps⟩ : Str) = _
  simp [st]
theorem st_mk (l : List Nat) : (⟨l.toArray⟩ : Str) = st l := rfl
theorem st_inj {l m : List Nat} : st l = st m ↔ l = m := by
  constructor
  · intro h
    have := congrArg (fun s => s.cps.toList) h
    simpa [st] using this
  · intro h; rw [h]
theorem sgn_tx (c : Nat) : sgn1 c = tx [c] := rfl
theorem cut_take {α : Type} (xs : List α) (v : Int) (h : 0 ≤ v) : cutL xs none (some v) = xs.take v.toNat := by
  have := cutL_take xs v.toNat
  rwa [Int.toNat_of_nonneg h] at this
theorem cut_drop {α : Type} (xs : List α) (v : Int) (h : 0 ≤ v) : cutL xs (some v) none = xs.drop v.toNat := by
  have := cutL_drop xs v.toNat
  rwa [Int.toNat_of_nonneg h] at this
def signs : List Nat := (Str.ofString " 0379abfo-x").cps.toList
/-- _law_spoilt -/
theorem r21 (n : Nat) (hn : 20 < n) (b : B) (l : List Nat) (hb : Bok b) (hl : l.length ≤ 1000000) : ∃ l' b', Bok b' ∧ l'.length ≤ l.length + 1 ∧ (∀ x ∈ l', x ∈ l ∨ x ∈ signs) ∧ runDef (sysP.tb n) d21 [bagD b, tx l] = .ok (tx l') 0 [some (bagD b', 1), none] := by
  have hps : d21.ps = [0] := rfl
  have e : startR d21 [bagD b, tx l] = [some (bagD b, 1), some (tx l, 0), none, none, none] := rfl
  obtain ⟨v, b1, hc1, hb1, v0, v1⟩ := call19 (n := n) (by omega) (ρ := [some (bagD b, 1), some (tx l, 0), none, none, none]) (i := 0) (b := b) (m := (l.length : Int) + 1) rfl hb (by omega) (by omega)
  obtain ⟨d, b2, hc2, hb2, hd⟩ := call20 (n := n) hn (ρ := [some (bagD b1, 1), some (tx l, 0), none, none, none]) (i := 0) (b := b1) (ds := signs.map sgn1) rfl hb1 (by decide +kernel) (by decide +kernel)
  obtain ⟨c, hcs, rfl⟩ := List.mem_map.mp hd
  rw [sgn_tx] at hc2
  obtain ⟨f, b3, hc3, hb3, hf⟩ := call20 (n := n) hn (ρ := [some (bagD b2, 1), some (tx l, 0), some (.int v, 0), some (tx [c], 0), some (.lst [tx l, tx (l.take v.toNat), tx (l.take v.toNat ++ c :: l.drop v.toNat), tx (l.take v.toNat ++ c :: l.drop (v + 1).toNat)], 1)]) (i := 0) (b := b2)
    (ds := [tx l, tx (l.take v.toNat), tx (l.take v.toNat ++ c :: l.drop v.toNat), tx (l.take v.toNat ++ c :: l.drop (v + 1).toNat), tx (l.take v.toNat ++ l.drop (v + 1).toNat)]) rfl hb2 (by simp) (by simp)
  have ht := cut_take l v v0
  have hdr := cut_drop l v v0
  have hdr2 := cut_drop l (v + 1) (by omega)
  have ht1 : ∀ x, x ∈ l.take v.toNat → x ∈ l ∨ x ∈ signs := fun x hx => .inl (List.mem_of_mem_take hx)
  have hd1 : ∀ k x, x ∈ l.drop k → x ∈ l ∨ x ∈ signs := fun k x hx => .inl (List.mem_of_mem_drop hx)
  have hg : ∃ l', f = tx l' ∧ l'.length ≤ l.length + 1 ∧ ∀ x ∈ l', x ∈ l ∨ x ∈ signs := by
    simp only [List.mem_cons, List.not_mem_nil, or_false] at hf
    rcases hf with rfl | rfl | rfl | rfl | rfl
    · exact ⟨_, rfl, by omega, fun x hx => .inl hx⟩
    · exact ⟨_, rfl, by rw [List.length_take]; omega, ht1⟩
    · refine ⟨_, rfl, by simp only [List.length_append, List.length_take, List.length_drop, List.length_cons, List.length_nil]; omega, fun x hx => ?_⟩
      rcases List.mem_append.mp hx with hx | hx
      · exact ht1 x hx
      · rcases List.mem_cons.mp hx with e | hx
        · rw [e]; exact .inr hcs
        · exact hd1 _ x hx
    · refine ⟨_, rfl, by simp only [List.length_append, List.length_take, List.length_drop, List.length_cons, List.length_nil]; omega, fun x hx => ?_⟩
      rcases List.mem_append.mp hx with hx | hx
      · exact ht1 x hx
      · rcases List.mem_cons.mp hx with e | hx
        · rw [e]; exact .inr hcs
        · exact hd1 _ x hx
    · refine ⟨_, rfl, by simp only [List.length_append, List.length_take, List.length_drop]; omega, fun x hx => ?_⟩
      rcases List.mem_append.mp hx with hx | hx
      · exact ht1 x hx
      · exact hd1 _ x hx
  obtain ⟨l', rfl, hl', hl2⟩ := hg
  refine ⟨l', b3, hb3, hl', hl2, ?_⟩
  have k1 : l.length ≤ 16777216 := by omega
  have k6 : min v.toNat l.length + 1 ≤ 16777216 := by omega
  have k7 : min v.toNat l.length + 1 + (l.length - v.toNat) ≤ 16777216 := by omega
  have k8 : min v.toNat l.length + 1 + (l.length - (v + 1).toNat) ≤ 16777216 := by omega
  have k9 : min v.toNat l.length + (l.length - (v + 1).toNat) ≤ 16777216 := by omega
  have k2 : (l.take v.toNat).length + 1 ≤ 16777216 := by rw [List.length_take]; omega
  have k3 : (l.take v.toNat).length + 1 + (l.drop v.toNat).length ≤ 16777216 := by rw [List.length_take, List.length_drop]; omega
  have k4 : (l.take v.toNat).length + 1 + (l.drop (v + 1).toNat).length ≤ 16777216 := by rw [List.length_take, List.length_drop]; omega
  have k5 : (l.take v.toNat).length + (l.drop (v + 1).toNat).length ≤ 16777216 := by rw [List.length_take, List.length_drop]; omega
  have hlist : blt1 .list (.str (Str.ofString " 0379abfo-x")) = some (.lst (signs.map sgn1), 1) := rfl
  have hlen : ∀ d, blt1 .len d = lenD d := fun _ => rfl
  simp only [tx] at hc1 hc2 hc3 ⊢
  rw [tx] at e
  rw [runDef_eq rfl, hps, e]
  simp [ev, evS, mkR, consR, opd, varO, varF, pureF, retV, frzV, tstO, lift_some, bltO, rdOs, rdO, val1, val2, bool0, optI, seqItems, truD, ifsT, bind_ok', then_ok, seq_nx, seq_rt, seq_bk, seq_ct, asgT, setO, getO, ipD, mutOk, mutR, LIMn, d21, io19, io20, bltD, hlen, hlist, lenD, hc1, hc2, hc3, ixD, finR, maskR, st_len, st_list, slcD, ht, hdr, hdr2, st_mk, st_app, binD, parT, List.length_take, List.length_drop, k1, k6, k7, k8, k9]
end EvL
end
section
set_option Elab.async false
set_option linter.all false
set_option maxRecDepth 100000
set_option maxHeartbeats 4000000
namespace EvL
open PySem PySem.Spec L2 Ev
theorem t35 (n : Nat) (hn : 19 < n) (b : B) (th : Slt) (acc : List D) (d : D) (hb : Bok b) (hl : acc.length < 1000000) :
    ∃ es b', evS (sysP.tb n) [0] p35_0 [some (bagD b, 1), th, some (.lst acc, 1), some (d, 0)] = .nx [some (bagD b', 1), th, some (.lst es, 1), some (d, 0)] ∧ Bok b' ∧ es.length = acc.length + 1 ∧ ∀ x ∈ es, x ∈ acc ∨ x = d := by
  obtain ⟨v, b1, hc1, hb1, v0, v1⟩ := call19 (n := n) hn (ρ := [some (bagD b, 1), th, some (.lst acc, 1), some (d, 0)]) (i := 0) (b := b) (m := (acc.length : Int) + 1) rfl hb (by omega) (by omega)
  refine ⟨acc.take v.toNat ++ d :: acc.drop v.toNat, b1, ?_, hb1, ?_, ?_⟩
  · have hlen : ∀ d, blt1 .len d = lenD d := fun _ => rfl
    have k1 : v ≤ acc.length := by omega
    have k2 : acc.length < 16777216 := by omega
    simp [ev, evS, mkR, consR, opd, varO, varF, pureF, retV, frzV, tstO, lift_some, bltO, rdOs, rdO, val1, val2, bool0, optI, seqItems, truD, ifsT, bind_ok', then_ok, seq_nx, seq_rt, seq_bk, seq_ct, asgT, setO, getO, ipD, mutOk, mutR, LIMn, p35_0, io19, bltD, hlen, lenD, hc1, binD, mutD, insertD, v0, k1, k2]
  · simp only [List.length_append, List.length_take, List.length_cons, List.length_drop]; omega
  · intro x hx
    rw [List.mem_append, List.mem_cons] at hx
    rcases hx with h | h | h
    · exact .inl (List.mem_of_mem_take h)
    · exact .inr h
    · exact .inl (List.mem_of_mem_drop h)
theorem l35 (n : Nat) (hn : 19 < n) (th : Slt) : ∀ (ds : List D) (b : B) (acc : List D) (x : Slt), Bok b → acc.length + ds.length < 1000000 → ∃ es b' x', forLoop (bindT [0] (.nm 3)) (evS (sysP.tb n) [0] p35_0) ds [some (bagD b, 1), th, some (.lst acc, 1), x] = .nx [some (bagD b', 1), th, some (.lst es, 1), x'] ∧ Bok b' ∧
      es.length = acc.length + ds.length ∧ ∀ y ∈ es, y ∈ acc ∨ y ∈ ds
  | [], b, acc, x, hb, hl => ⟨acc, b, x, rfl, hb, by simp, fun y hy => .inl hy⟩
  | d :: ds, b, acc, x, hb, hl => by
    simp only [List.length_cons] at hl
    obtain ⟨es, b1, h1, h2, h3, h4⟩ := t35 n hn b th acc d hb (by omega)
    obtain ⟨es', b', x', h5, h6, h7, h8⟩ := l35 n hn th ds b1 es (some (d, 0)) h2 (by omega)
    refine ⟨es', b', x', ?_, h6, by rw [h7, h3, List.length_cons]; omega, fun y hy => ?_⟩
    · simp only [forLoop]
      have hbd : bindT [0] (.nm 3) d [some (bagD b, 1), th, some (.lst acc, 1), x] = some [some (bagD b, 1), th, some (.lst acc, 1), some (d, 0)] := by simp [bindT]
      simp only [hbd, h1]
      exact h5
    · rcases h8 y hy with h | h
      · rcases h4 y h with h | h
        · exact .inl h
        · exact .inr (by rw [h]; exact List.mem_cons_self)
      · exact .inr (List.mem_cons_of_mem _ h)
/-- _law_mixed -/
theorem r35 (n : Nat) (hn : 19 < n) (b : B) (ds : List D) (hb : Bok b) (hl : ds.length < 1000000) : ∃ es b', Bok b' ∧ es.length = ds.length ∧ (∀ y ∈ es, y ∈ ds) ∧ runDef (sysP.tb n) d35 [bagD b, .lst ds] = .ok (.lst es) 1 [some (bagD b', 1), none] := by
  have hps : d35.ps = [0] := rfl
  have e : startR d35 [bagD b, .lst ds] = [some (bagD b, 1), some (.lst ds, 0), none, none] := rfl
  obtain ⟨es, b', x', h1, h2, h3, h4⟩ := l35 n hn (some (.lst ds, 0)) ds b [] none hb (by simpa using hl)
  refine ⟨es, b', h2, by simpa using h3, fun y hy => by simpa using h4 y hy, ?_⟩
  rw [runDef_eq rfl, hps, e]
  simp [ev, evS, mkR, consR, opd, varO, varF, pureF, retV, frzV, tstO, lift_some, bltO, rdOs, rdO, val1, val2, bool0, optI, seqItems, truD, ifsT, bind_ok', then_ok, seq_nx, seq_rt, seq_bk, seq_ct, asgT, setO, getO, ipD, mutOk, mutR, LIMn, d35, p35_1, finR, maskR, h1]
theorem run35 {n : Nat} (h : 35 < n) : (sysP.tb n).run 35 = runDef (sysP.tb 35) d35 := runP h rfl
theorem io35 (n : Nat) : (sysP.tb n).io 35 = [true, false] := ioP (d := d35) rfl
/-! ### the scan -/
def scD (t : List Nat) (a : Int) (g : Bool) : D := .ins 0 [(Str.ofString "text", tx t), (Str.ofString "at", .int a), (Str.ofString "good", .bl g)]
theorem fld_text (t : List Nat) (a : Int) (g : Bool) : fldD (Str.ofString "text") (scD t a g) = some (tx t, 0) := rfl
theorem fld_at (t : List Nat) (a : Int) (g : Bool) : fldD (Str.ofString "at") (scD t a g) = some (.int a, 0) := rfl
theorem fld_good (t : List Nat) (a : Int) (g : Bool) : fldD (Str.ofString "good") (scD t a g) = some (.bl g, 0) := rfl
theorem put_at (t : List Nat) (a c : Int) (g : Bool) : putD (Str.ofString "at") (.int c) [(Str.ofString "text", tx t), (Str.ofString "at", .int a), (Str.ofString "good", .bl g)] = [(Str.ofString "text", tx t), (Str.ofString "at", .int c), (Str.ofString "good", .bl g)] := rfl
theorem put_good (t : List Nat) (a : Int) (g c : Bool) : putD (Str.ofString "good") (.bl c) [(Str.ofString "text", tx t), (Str.ofString "at", .int a), (Str.ofString "good", .bl g)] = [(Str.ofString "text", tx t), (Str.ofString "at", .int a), (Str.ofString "good", .bl c)] := rfl
/-- next_sign: the sign at a, or nothing -/
def sgnAt (t : List Nat) (a : Nat) : List Nat := (t.drop a).take 1
theorem cut_mid {α : Type} (xs : List α) (a k : Nat) : cutL xs (some (a : Int)) (some ((a : Int) + (k : Int))) = (xs.drop a).take k := by
  have e : ((a : Int) + (k : Int)) = ((a + k : Nat) : Int) := by omega
  unfold cutL
  rw [e, HT.sIx_nat, HT.sIx_nat]
  by_cases h : a ≤ xs.length
  · rw [Nat.min_eq_left h, List.take_eq_take_iff, List.length_drop]
    omega
  · rw [Nat.min_eq_right (by omega : xs.length ≤ a), List.drop_eq_nil_of_le (Nat.le_refl _), List.drop_eq_nil_of_le (by omega : xs.length ≤ a)]
    simp
theorem r2 (T : Tb) (t : List Nat) (a : Nat) (g : Bool) (hl : t.length ≤ 1000000) : runDef T d2 [scD t a g] = .ok (tx (sgnAt t a)) 0 [some (scD t a g, 1)] := by
  have hps : d2.ps = [0] := rfl
  have e : startR d2 [scD t a g] = [some (scD t a g, 1)] := rfl
  have hm : cutL t (some (a : Int)) (some ((a : Int) + 1)) = (t.drop a).take 1 := cut_mid t a 1
  have k1 : t.length ≤ 16777216 := by omega
  rw [runDef_eq rfl, hps, e]
  simp [ev, evS, mkR, consR, opd, varO, varF, pureF, retV, frzV, tstO, lift_some, bltO, rdOs, rdO, val1, val2, bool0, optI, seqItems, truD, ifsT, bind_ok', then_ok, seq_nx, seq_rt, seq_bk, seq_ct, asgT, setO, getO, ipD, mutOk, mutR, LIMn, d2, fld_text, fld_at, binD, tx, slcD, st_len, st_list, k1, finR, maskR, hm, st_mk, sgnAt]
theorem run2 {n : Nat} (h : 2 < n) : (sysP.tb n).run 2 = runDef (sysP.tb 2) d2 := runP h rfl
theorem io2 (n : Nat) : (sysP.tb n).io 2 = [true] := ioP (d := d2) rfl
theorem call2 {n : Nat} (hn : 2 < n) {ρ : Rho} {i : Nat} {t : List Nat} {a : Nat} {g : Bool} (hρ : ρ[i]? = some (some (scD t a g, 1))) (hl : t.length ≤ 1000000) : callR (sysP.tb n) 2 [.s i] ρ = .ok (tx (sgnAt t a), 0) (ρ.set i (some (scD t a g, 1))) := by
  refine call_ok (io2 n) rfl ?_ ((congrFun (run2 hn) _).trans (r2 _ t a g hl)) rfl
  simp [rdOs, rdO, hρ]
theorem fset_good (t : List Nat) (a : Int) (g c : Bool) (r : Rho) : fsetO 0 (Str.ofString "good") (.bl c) (some (scD t a g, 1) :: r) = .nx (some (scD t a c, 1) :: r) := rfl
theorem fset_at (t : List Nat) (a c : Int) (g : Bool) (r : Rho) : fsetO 0 (Str.ofString "at") (.int c) (some (scD t a g, 1) :: r) = .nx (some (scD t c g, 1) :: r) := rfl
theorem fau_at (T : Tb) (ps : List Nat) (e : CE) (t : List Nat) (a d : Int) (g : Bool) (r r' : Rho) (l : Nat) (h : (ev T ps e).f (some (scD t a g, 1) :: r) = .ok (.int d, l) (some (scD t a g, 1) :: r')) : evS T ps (.fau 0 (Str.ofString "at") .Add e) (some (scD t a g, 1) :: r) = .nx (some (scD t (a + d) g, 1) :: r') := by
  show ((ev T ps e).f (some (scD t a g, 1) :: r)).then _ = _
  rw [h]
  rfl
/-- take_word: over the signs of a word -/
def wordGo (t : List Nat) : List Nat → Nat → Bool → Nat × Bool
  | [], a, g => (a, g)
  | c :: w, a, g => if g = true ∧ sgnAt t a = [c] then wordGo t w (a + 1) g else (a, false)
theorem ins_ok (t : List Nat) (a : Int) (g : Bool) (r : Rho) : insOk 0 (Str.ofString "next_sign") 0 (some (scD t a g, 1) :: r) = true := rfl
theorem tx_ne (l m : List Nat) : cmpD .NotEq (tx l) (tx m) = some (!decide (l = m)) := by
  simp [cmpD, tx, eqE, st_inj]
def p3a : CS := match p3_0 with
  | .seq a _ => a
  | _ => .nil
theorem t3 (n : Nat) (hn : 2 < n) (t : List Nat) (a : Nat) (g : Bool) (x : Slt) (c : Nat) (hl : t.length ≤ 1000000) : evS (sysP.tb n) [0] p3_0 [some (scD t a g, 1), x, some (tx [c], 0)] =
    if g = true ∧ sgnAt t a = [c] then .nx [some (scD t (a + 1 : Nat) g, 1), x, some (tx [c], 0)] else .rt .non 0 [some (scD t a false, 1), x, some (tx [c], 0)] := by
  have hc := call2 hn (ρ := [some (scD t a g, 1), x, some (tx [c], 0)]) (i := 0) (t := t) (a := a) (g := g) rfl hl
  have hi := ins_ok t a g [x, some (tx [c], 0)]
  have hbody : p3_0 = .seq p3a (.seq (.fau 0 (Str.ofString "at") .Add (.int 1)) .nil) := rfl
  have hfau := fau_at (sysP.tb n) [0] (.int 1) t a 1 g [x, some (tx [c], 0)] [x, some (tx [c], 0)] 0 rfl
  have hio : ((sysP.tb n).io 2).tail = [] := by rw [io2]; rfl
  have ha : evS (sysP.tb n) [0] p3a [some (scD t a g, 1), x, some (tx [c], 0)] = if g = true ∧ sgnAt t a = [c] then .nx [some (scD t a g, 1), x, some (tx [c], 0)] else .rt .non 0 [some (scD t a false, 1), x, some (tx [c], 0)] := by
    cases g with
    | false => simp [ev, evS, mkR, consR, opd, varO, varF, pureF, retV, frzV, tstO, lift_some, bltO, rdOs, rdO, val1, val2, bool0, optI, seqItems, truD, ifsT, bind_ok', then_ok, seq_nx, seq_rt, seq_bk, seq_ct, asgT, setO, getO, ipD, mutOk, mutR, LIMn, p3a, p3_0, fld_good, fset_good]
    | true =>
      by_cases h : sgnAt t a = [c]
      · simp [ev, evS, mkR, consR, opd, varO, varF, pureF, retV, frzV, tstO, lift_some, bltO, rdOs, rdO, val1, val2, bool0, optI, seqItems, truD, ifsT, bind_ok', then_ok, seq_nx, seq_rt, seq_bk, seq_ct, asgT, setO, getO, ipD, mutOk, mutR, LIMn, p3a, p3_0, fld_good, fset_good, hi, hio, hc, tx_ne, h]
      · simp [ev, evS, mkR, consR, opd, varO, varF, pureF, retV, frzV, tstO, lift_some, bltO, rdOs, rdO, val1, val2, bool0, optI, seqItems, truD, ifsT, bind_ok', then_ok, seq_nx, seq_rt, seq_bk, seq_ct, asgT, setO, getO, ipD, mutOk, mutR, LIMn, p3a, p3_0, fld_good, fset_good, hi, hio, hc, tx_ne, h]
  rw [hbody]
  simp only [evS, ha]
  by_cases h : g = true ∧ sgnAt t a = [c]
  · simp only [if_pos h, seq_nx]
    have : evS (sysP.tb n) [0] (.fau 0 (Str.ofString "at") .Add (.int 1)) [some (scD t a g, 1), x, some (tx [c], 0)] = _ := hfau
    simp only [evS] at this
    rw [this]
    rfl
  · simp only [if_neg h, seq_rt]
end EvL
end
section
set_option Elab.async false
set_option linter.all false
set_option maxRecDepth 100000
set_option maxHeartbeats 4000000
namespace EvL
open PySem PySem.Spec L2 Ev
def scG (t : List Nat) (p : Nat × Bool) : D := scD t p.1 p.2
theorem l3 (n : Nat) (hn : 2 < n) (t : List Nat) (x1 : Slt) (hl : t.length ≤ 1000000) : ∀ (w : List Nat) (a : Nat) (g : Bool) (x : Slt), ∃ y, forLoop (bindT [0] (.nm 2)) (evS (sysP.tb n) [0] p3_0) (w.map sgn1) [some (scD t a g, 1), x1, x] = .nx [some (scG t (wordGo t w a g), 1), x1, y] ∨
    forLoop (bindT [0] (.nm 2)) (evS (sysP.tb n) [0] p3_0) (w.map sgn1) [some (scD t a g, 1), x1, x] = .rt .non 0 [some (scG t (wordGo t w a g), 1), x1, y]
  | [], a, g, x => ⟨x, .inl rfl⟩
  | c :: w, a, g, x => by
    have hbd : bindT [0] (.nm 2) (sgn1 c) [some (scD t a g, 1), x1, x] = some [some (scD t a g, 1), x1, some (tx [c], 0)] := by simp [bindT, sgn_tx]
    have hstep := t3 n hn t a g x1 c hl
    simp only [List.map_cons, forLoop, hbd, wordGo]
    by_cases h : g = true ∧ sgnAt t a = [c]
    · simp only [if_pos h] at hstep ⊢
      simp only [hstep]
      exact l3 n hn t x1 hl w (a + 1) g (some (tx [c], 0))
    · simp only [if_neg h] at hstep ⊢
      simp only [hstep]
      exact ⟨_, .inr rfl⟩
/-- take_word -/
theorem r3 (n : Nat) (hn : 2 < n) (t w : List Nat) (a : Nat) (g : Bool) (hl : t.length ≤ 1000000) : runDef (sysP.tb n) d3 [scD t a g, tx w] = .ok .non 0 [some (scG t (wordGo t w a g), 1), none] := by
  have hps : d3.ps = [0] := rfl
  have e : startR d3 [scD t a g, tx w] = [some (scD t a g, 1), some (tx w, 0), none] := rfl
  have hit : (ev (sysP.tb n) [0] (.var 1)).it [some (scD t a g, 1), some (tx w, 0), none] = .ok (w.map sgn1) [some (scD t a g, 1), some (tx w, 0), none] := by
    simp [ev, evS, mkR, consR, opd, varO, varF, pureF, retV, frzV, tstO, lift_some, bltO, rdOs, rdO, val1, val2, bool0, optI, seqItems, truD, ifsT, bind_ok', then_ok, seq_nx, seq_rt, seq_bk, seq_ct, asgT, setO, getO, ipD, mutOk, mutR, LIMn, tx, st_list]
  have hbody : d3.body = .seq (.for_ (.nm 2) (.var 1) p3_0) .nil := rfl
  obtain ⟨y, h | h⟩ := l3 n hn t (some (tx w, 0)) hl w a g none
  · rw [runDef_eq rfl, hps, e, hbody]
    simp only [evS, hit, then_ok, h, seq_nx, finR]
    rfl
  · rw [runDef_eq rfl, hps, e, hbody]
    simp only [evS, hit, then_ok, h, seq_rt, finR]
    rfl
theorem run3 {n : Nat} (h : 3 < n) : (sysP.tb n).run 3 = runDef (sysP.tb 3) d3 := runP h rfl
theorem io3 (n : Nat) : (sysP.tb n).io 3 = [true, false] := ioP (d := d3) rfl
theorem call3 {n : Nat} (hn : 3 < n) {ρ : Rho} {i : Nat} {t w : List Nat} {a : Nat} {g : Bool} (hρ : ρ[i]? = some (some (scD t a g, 1))) (hl : t.length ≤ 1000000) : callR (sysP.tb n) 3 [.s i, .v (tx w)] ρ = .ok (.non, 0) (ρ.set i (some (scG t (wordGo t w a g), 1))) := by
  refine call_ok (io3 n) rfl ?_ ((congrFun (run3 hn) _).trans (r3 3 (by omega) t w a g hl)) rfl
  simp [rdOs, rdO, hρ]
/-! letters and figures -/
def lets : List Nat := (Str.ofString "abcdefghijklmnopqrstuvwxyz").cps.toList
def digs : List Nat := (Str.ofString "0123456789").cps.toList
theorem con_L : con (Str.ofString "LETTERS") = tx lets := rfl
theorem con_D : con (Str.ofString "DIGITS") = tx digs := rfl
/-- one sign within a text -/
theorem in_sign (c : Nat) (l : List Nat) : inStr (st [c]) (st l) = decide (c ∈ l) := by
  have := StrLaws.found_one (st l) c
  rw [st_list] at this
  exact this
def al (c : Nat) : Bool := decide (c ∈ lets ++ digs)
theorem tx_ix (t : List Nat) (e : Nat) (c : Nat) (h : t[e]? = some c) (hl : t.length ≤ 1000000) : ixD (tx t) (.int e) = some (tx [c], 0) := by
  have he : e < t.length := (List.getElem?_eq_some_iff.mp h).1
  have k1 : (st t).length ≤ LIM := by rw [st_len, LIMn]; omega
  have k2 : atI t (e : Int) = some c := by
    unfold atI ixN
    rw [if_pos (by omega), if_pos (by omega)]
    simpa using h
  simp only [tx, ixD, if_pos k1, st_list, k2, Option.map_some, sgn1]
  rfl
theorem t4 (T : Tb) (hc : T.con = con) (t : List Nat) (a e : Nat) (g : Bool) (hl : t.length ≤ 1000000) : (ev T [0] p4_0).t [some (scD t a g, 1), some (.int e, 0)] = .ok (match t[e]? with
    | some c => al c
    | none => false) [some (scD t a g, 1), some (.int e, 0)] := by
  have hlen : ∀ d, blt1 .len d = lenD d := fun _ => rfl
  have hle : lenD (tx t) = some (.int t.length, 0) := by
    have k : (st t).length ≤ LIM := by rw [st_len, LIMn]; omega
    rw [st_len] at k
    simp only [tx, lenD, st_len, if_pos k]
  have hcat : binD .Add (tx lets) (tx digs) = some (tx (lets ++ digs), 0) := by
    have k : (st lets).length + (st digs).length ≤ LIM := by rw [st_len, st_len, LIMn]; decide +kernel
    simp only [tx, binD, if_pos k, st_app]
  have hin : ∀ c, cmpD .In (tx [c]) (tx (lets ++ digs)) = some (al c) := fun c => by
    show some (inStr (st [c]) (st (lets ++ digs))) = _
    rw [in_sign]; rfl
  by_cases h : e < t.length
  · have h1 : t[e]? = some t[e] := List.getElem?_eq_getElem h
    have h2 := tx_ix t e t[e] h1 hl
    have h3 : cmpD .Lt (.int (e : Int)) (.int (t.length : Int)) = some true := by simp [cmpD, h]
    simp [ev, evS, mkR, consR, opd, varO, varF, pureF, retV, frzV, tstO, lift_some, bltO, rdOs, rdO, val1, val2, bool0, optI, seqItems, truD, ifsT, bind_ok', then_ok, seq_nx, seq_rt, seq_bk, seq_ct, asgT, setO, getO, ipD, mutOk, mutR, LIMn, p4_0, fld_text, bltD, hlen, hle, h3, h2, hc, con_L, con_D, hcat, hin, h1]
  · have h1 : t[e]? = none := List.getElem?_eq_none (by omega)
    have h3 : cmpD .Lt (.int (e : Int)) (.int (t.length : Int)) = some false := by simp [cmpD]; omega
    simp [ev, evS, mkR, consR, opd, varO, varF, pureF, retV, frzV, tstO, lift_some, bltO, rdOs, rdO, val1, val2, bool0, optI, seqItems, truD, ifsT, bind_ok', then_ok, seq_nx, seq_rt, seq_bk, seq_ct, asgT, setO, getO, ipD, mutOk, mutR, LIMn, p4_0, fld_text, bltD, hlen, hle, h3, h1]
/-- a while loop, one turn -/
theorem while_go {t : Rho → Res Bool} {f : Rho → SR} {n : Nat} {ρ ρ1 ρ2 : Rho} (h1 : t ρ = .ok true ρ1) (h2 : f ρ1 = .nx ρ2) : whileLoop t f (n + 1) ρ = whileLoop t f n ρ2 := by
  simp only [whileLoop, h1, then_ok, if_true, h2]
theorem while_end {t : Rho → Res Bool} {f : Rho → SR} {n : Nat} {ρ ρ1 : Rho} (h1 : t ρ = .ok false ρ1) : whileLoop t f (n + 1) ρ = .nx ρ1 := by
  simp only [whileLoop, h1, then_ok]
  rfl
theorem w4 (T : Tb) (hc : T.con = con) (t : List Nat) (a : Nat) (g : Bool) (hl : t.length ≤ 1000000) : ∀ (k e n : Nat), t.length - e ≤ k → k < n → whileLoop (ev T [0] p4_0).t (evS T [0] p4_1) n [some (scD t a g, 1), some (.int e, 0)] = .nx [some (scD t a g, 1), some (.int ((e + ((t.drop e).takeWhile al).length : Nat) : Int), 0)] := by
  intro k
  induction k with
  | zero =>
    intro e n h1 h2
    obtain ⟨n, rfl⟩ : ∃ m, n = m + 1 := ⟨n - 1, by omega⟩
    have hn : t[e]? = none := List.getElem?_eq_none (by omega)
    have ht := t4 T hc t a e g hl
    rw [hn] at ht
    rw [while_end ht, List.drop_eq_nil_of_le (by omega)]
    simp
  | succ k ih =>
    intro e n h1 h2
    obtain ⟨n, rfl⟩ : ∃ m, n = m + 1 := ⟨n - 1, by omega⟩
    have ht := t4 T hc t a e g hl
    cases hn : t[e]? with
    | none =>
      rw [hn] at ht
      rw [while_end ht, List.drop_eq_nil_of_le (List.getElem?_eq_none_iff.mp hn)]
      simp
    | some c =>
      rw [hn] at ht
      have he : e < t.length := (List.getElem?_eq_some_iff.mp hn).1
      have hd : t.drop e = c :: t.drop (e + 1) := by
        rw [List.getElem?_eq_getElem he] at hn
        cases hn
        exact List.drop_eq_getElem_cons he
      cases hal : al c with
      | false =>
        simp only [hal] at ht
        rw [while_end ht, hd]
        simp [List.takeWhile_cons, hal]
      | true =>
        simp only [hal] at ht
        have hstep : evS T [0] p4_1 [some (scD t a g, 1), some (.int e, 0)] = .nx [some (scD t a g, 1), some (.int ((e + 1 : Nat) : Int), 0)] := by
          simp [ev, evS, mkR, consR, opd, varO, varF, pureF, retV, frzV, tstO, lift_some, bltO, rdOs, rdO, val1, val2, bool0, optI, seqItems, truD, ifsT, bind_ok', then_ok, seq_nx, seq_rt, seq_bk, seq_ct, asgT, setO, getO, ipD, mutOk, mutR, LIMn, p4_1]
        rw [while_go ht hstep, ih (e + 1) n (by omega) (by omega), hd]
        simp only [List.takeWhile_cons, hal, if_true, List.length_cons]
        rw [show e + 1 + ((t.drop (e + 1)).takeWhile al).length = e + (((t.drop (e + 1)).takeWhile al).length + 1) by omega]
def restRun (t : List Nat) (a : Nat) : List Nat := (t.drop a).takeWhile al
theorem take_tw (p : Nat → Bool) : ∀ l : List Nat, l.take (l.takeWhile p).length = l.takeWhile p
  | [] => rfl
  | c :: l => by
    rw [List.takeWhile_cons]
    split
    · simp only [List.length_cons, List.take_succ_cons, take_tw p l]
    · rfl
/-- rest_run -/
theorem r4 (T : Tb) (hc : T.con = con) (t : List Nat) (a : Nat) (g : Bool) (hl : t.length ≤ 100000) : runDef T d4 [scD t a g] = .ok (tx (restRun t a)) 0 [some (scD t a g, 1)] := by
  have hps : d4.ps = [0] := rfl
  have e : startR d4 [scD t a g] = [some (scD t a g, 1), none] := rfl
  have hw := w4 T hc t a g (by omega) t.length a 1000000 (by omega) (by omega)
  have hm := cut_mid t a (restRun t a).length
  have k1 : (st t).length ≤ LIM := by rw [st_len, LIMn]; omega
  have hs : slcD (tx t) (some (a : Int)) (some ((a + (restRun t a).length : Nat) : Int)) = some (tx (restRun t a), 0) := by
    have e1 : ((a + (restRun t a).length : Nat) : Int) = (a : Int) + ((restRun t a).length : Int) := by omega
    rw [e1]
    simp only [tx, slcD, if_pos k1, st_list, hm]
    unfold restRun
    rw [take_tw]; rfl
  have hbody : d4.body = .seq (.asg (.nm 1) (.fld (.var 0) (Str.ofString "at"))) (.seq (.while_ p4_0 p4_1) (.seq (.ret (.slc (.fld (.var 0) (Str.ofString "text")) (.fld (.var 0) (Str.ofString "at")) (.var 1))) .nil)) := rfl
  have h1 : evS T [0] (.asg (.nm 1) (.fld (.var 0) (Str.ofString "at"))) [some (scD t a g, 1), none] = .nx [some (scD t a g, 1), some (.int a, 0)] := by
    simp [ev, evS, mkR, consR, opd, varO, varF, pureF, retV, frzV, tstO, lift_some, bltO, rdOs, rdO, val1, val2, bool0, optI, seqItems, truD, ifsT, bind_ok', then_ok, seq_nx, seq_rt, seq_bk, seq_ct, asgT, setO, getO, ipD, mutOk, mutR, LIMn, fld_at]
  have h2 : evS T [0] (.ret (.slc (.fld (.var 0) (Str.ofString "text")) (.fld (.var 0) (Str.ofString "at")) (.var 1))) [some (scD t a g, 1), some (.int ((a + (restRun t a).length : Nat) : Int), 0)] = .rt (tx (restRun t a)) 0 [some (scD t a g, 1), some (.int ((a + (restRun t a).length : Nat) : Int), 0)] := by
    generalize hz : ((a + (restRun t a).length : Nat) : Int) = z at hs
    simp [ev, evS, mkR, consR, opd, varO, varF, pureF, retV, frzV, tstO, lift_some, bltO, rdOs, rdO, val1, val2, bool0, optI, seqItems, truD, ifsT, bind_ok', then_ok, seq_nx, seq_rt, seq_bk, seq_ct, asgT, setO, getO, ipD, mutOk, mutR, LIMn, fld_at, fld_text, hs]
  rw [runDef_eq rfl, hps, e, hbody]
  have hwh : evS T [0] (.while_ p4_0 p4_1) [some (scD t a g, 1), some (.int a, 0)] = .nx [some (scD t a g, 1), some (.int ((a + (restRun t a).length : Nat) : Int), 0)] := hw
  have hseq : ∀ x y ρ, evS T [0] (.seq x y) ρ = (evS T [0] x ρ).seq (evS T [0] y) := fun _ _ _ => rfl
  rw [hseq, h1, seq_nx, hseq, hwh, seq_nx, hseq, h2, seq_rt]
  rfl
theorem run4 {n : Nat} (h : 4 < n) : (sysP.tb n).run 4 = runDef (sysP.tb 4) d4 := runP h rfl
theorem io4 (n : Nat) : (sysP.tb n).io 4 = [true] := ioP (d := d4) rfl
theorem call4 {n : Nat} (hn : 4 < n) {ρ : Rho} {i : Nat} {t : List Nat} {a : Nat} {g : Bool} (hρ : ρ[i]? = some (some (scD t a g, 1))) (hl : t.length ≤ 100000) : callR (sysP.tb n) 4 [.s i] ρ = .ok (tx (restRun t a), 0) (ρ.set i (some (scD t a g, 1))) := by
  refine call_ok (io4 n) rfl ?_ ((congrFun (run4 hn) _).trans (r4 _ (conP _) t a g hl)) rfl
  simp [rdOs, rdO, hρ]
end EvL
end
section
set_option Elab.async false
set_option linter.all false
set_option maxRecDepth 100000
set_option maxHeartbeats 4000000
namespace EvL
open PySem PySem.Spec L2 Ev
/-- plain signs -/
def Pl (l : List Nat) : Prop := ∀ c ∈ l, c < 128
theorem okD_tx {l : List Nat} (h : Pl l) : okD (tx l) = true := by
  show PyData.strOk (st l) = true
  unfold PyData.strOk
  simp [st]
  intro c hc
  have := h c hc
  omega
theorem eqD_tx (l m : List Nat) : eqD (tx l) (tx m) = decide (l = m) := by
  show PyData.eqv (.str (st l)) (.str (st m)) = _
  simp only [PyData.eqv]
  by_cases h : l = m
  · subst h; simp
  · have : ¬ st l = st m := fun z => h (st_inj.mp z)
    simp [h, this]
theorem okAll_tx : ∀ {ms : List (List Nat)}, (∀ m ∈ ms, Pl m) → okAll 59 (ms.map tx) = true
  | [], _ => rfl
  | m :: ms, h => by
    simp only [List.map_cons, okAll, Bool.and_eq_true]
    exact ⟨okD_tx (h m List.mem_cons_self), okAll_tx fun x hx => h x (List.mem_cons_of_mem _ hx)⟩
theorem any_tx (l : List Nat) : ∀ ms : List (List Nat), ((ms.map tx).any fun z => eqD z (tx l)) = decide (l ∈ ms)
  | [] => by simp
  | m :: ms => by
    simp only [List.map_cons, List.any_cons, any_tx l ms, eqD_tx, List.mem_cons]
    by_cases h : m = l
    · subst h; simp
    · have : ¬ l = m := fun z => h z.symm
      simp [h, this]
theorem in_tup {l : List Nat} {ms : List (List Nat)} (hl : Pl l) (hm : ∀ m ∈ ms, Pl m) : inD (tx l) (.tup (ms.map tx)) = some (decide (l ∈ ms)) := by
  have h1 := okD_tx hl
  have h2 : okD (.tup (ms.map tx)) = true := okAll_tx hm
  simp only [inD, h1, h2, Bool.and_self, if_true, any_tx]
theorem in_lst {l : List Nat} {ms : List (List Nat)} (hl : Pl l) (hm : ∀ m ∈ ms, Pl m) : inD (tx l) (.lst (ms.map tx)) = some (decide (l ∈ ms)) := by
  have h1 := okD_tx hl
  have h2 : okD (.lst (ms.map tx)) = true := okAll_tx hm
  simp only [inD, h1, h2, Bool.and_self, if_true, any_tx]
def resv : List (List Nat) := ["answers", "asks", "counts", "end", "event", "fold", "moments", "of", "past", "states", "tells"].map fun s => (Str.ofString s).cps.toList
theorem con_R : con (Str.ofString "RESERVED") = .tup (resv.map tx) := rfl
theorem con_S : con (Str.ofString "MOST_SIGNS") = .int 8 := rfl
theorem resv_pl : ∀ m ∈ resv, Pl m := by unfold Pl; decide +kernel
/-- take_name: what it gives, where it stands, whether it is good -/
def nameGo (t : List Nat) (a : Nat) (g : Bool) : List Nat × Nat × Bool :=
  if g = false ∨ restRun t a = [] ∨ (restRun t a).head?.any (fun c => decide (c ∈ digs)) = true then ([], a, false)
  else ((restRun t a).take 8, a + min (restRun t a).length 8, !decide ((restRun t a).take 8 ∈ resv))
theorem tx_eq (l m : List Nat) : cmpD .Eq (tx l) (tx m) = some (decide (l = m)) := by
  simp [cmpD, tx, eqE, st_inj]
theorem len_tx {l : List Nat} (h : l.length ≤ 1000000) : lenD (tx l) = some (.int l.length, 0) := by
  have k : (st l).length ≤ LIM := by rw [st_len, LIMn]; omega
  rw [st_len] at k
  simp only [tx, lenD, st_len, if_pos k]
theorem slc_take {l : List Nat} (h : l.length ≤ 1000000) (k : Nat) : slcD (tx l) none (some (k : Int)) = some (tx (l.take k), 0) := by
  have k1 : (st l).length ≤ LIM := by rw [st_len, LIMn]; omega
  simp only [tx, slcD, if_pos k1, st_list, cutL_take]
  rfl
theorem al_pl {c : Nat} (h : al c = true) : c < 128 := by
  have : ∀ x ∈ lets ++ digs, x < 128 := by decide +kernel
  exact this c (by simpa [al] using h)
theorem mem_tw {p : Nat → Bool} {c : Nat} : ∀ {l : List Nat}, c ∈ l.takeWhile p → p c = true
  | d :: l, h => by
    rw [List.takeWhile_cons] at h
    split at h
    · rename_i hd
      rcases List.mem_cons.mp h with e | h
      · rw [e]; exact hd
      · exact mem_tw h
    · cases h
theorem restRun_pl (t : List Nat) (a : Nat) : Pl (restRun t a) := fun c hc => al_pl (mem_tw hc)
theorem restRun_len (t : List Nat) (a : Nat) : (restRun t a).length ≤ t.length := by
  unfold restRun
  exact Nat.le_trans (List.takeWhile_sublist _).length_le (by rw [List.length_drop]; omega)
theorem in_digs (c : Nat) : cmpD .In (tx [c]) (tx digs) = some (decide (c ∈ digs)) := by
  show some (inStr (st [c]) (st digs)) = _
  rw [in_sign]
theorem ins_ok4 (t : List Nat) (a : Int) (g : Bool) (m : Str) (r : Rho) (h : m ≠ Str.ofString "text" ∧ m ≠ Str.ofString "at" ∧ m ≠ Str.ofString "good") : insOk 0 m 0 (some (scD t a g, 1) :: r) = true := by
  obtain ⟨h1, h2, h3⟩ := h
  show ((0 : Nat) == 0 && (List.lookup m [(Str.ofString "text", tx t), (Str.ofString "at", D.int a), (Str.ofString "good", D.bl g)]).isNone) = true
  have e1 : (m == Str.ofString "text") = false := beq_eq_false_iff_ne.mpr h1
  have e2 : (m == Str.ofString "at") = false := beq_eq_false_iff_ne.mpr h2
  have e3 : (m == Str.ofString "good") = false := beq_eq_false_iff_ne.mpr h3
  simp only [List.lookup_cons, e1, e2, e3]
  rfl
/-- take_name -/
theorem r5 (n : Nat) (hn : 4 < n) (t : List Nat) (a : Nat) (g : Bool) (hl : t.length ≤ 100000) : runDef (sysP.tb n) d5 [scD t a g] = .ok (tx (nameGo t a g).1) 0 [some (scG t (nameGo t a g).2, 1)] := by
  have hps : d5.ps = [0] := rfl
  have e : startR d5 [scD t a g] = [some (scD t a g, 1), none] := rfl
  have hc := call4 hn (ρ := [some (scD t a g, 1), none]) (i := 0) (t := t) (a := a) (g := g) rfl hl
  have hi := ins_ok4 t a g (Str.ofString "rest_run") [none] (by decide +kernel)
  have hio : ((sysP.tb n).io 4).tail = [] := by rw [io4]; rfl
  have hcon : (sysP.tb n).con = con := conP n
  generalize hR : restRun t a = R at hc
  have hRl : R.length ≤ 100000 := by rw [← hR]; exact Nat.le_trans (restRun_len t a) hl
  have hRp : Pl R := by rw [← hR]; exact restRun_pl t a
  have hlen := len_tx (l := R) (by omega)
  have hb1 : ∀ d, blt1 .len d = lenD d := fun _ => rfl
  have hsl : slcD (tx R) none (some 8) = some (tx (R.take 8), 0) := slc_take (by omega) 8
  have htp : Pl (R.take 8) := fun c hc => hRp c (List.mem_of_mem_take hc)
  have hnot : cmpD .NotIn (tx (R.take 8)) (.tup (resv.map tx)) = some (!decide (R.take 8 ∈ resv)) := by
    show (inD _ _).map (!·) = _
    rw [in_tup htp resv_pl]; rfl
  have hmin : blt2 .min (.int (R.length : Int)) (.int 8) = some (.int ((min R.length 8 : Nat) : Int), 0) := by
    show some (D.int (if (8 : Int) < R.length then 8 else R.length), 0) = _
    congr 3
    split <;> omega
  have hseq : ∀ x y ρ, evS (sysP.tb n) [0] (.seq x y) ρ = (evS (sysP.tb n) [0] x ρ).seq (evS (sysP.tb n) [0] y) := fun _ _ _ => rfl
  have htxe : D.str (Str.ofString "") = tx [] := rfl
  have h1 : evS (sysP.tb n) [0] (.asg (.nm 1) (.omt 0 (Str.ofString "rest_run") 4 0 .nil)) [some (scD t a g, 1), none] = .nx [some (scD t a g, 1), some (tx R, 0)] := by
    simp [ev, evS, mkR, consR, opd, varO, varF, pureF, retV, frzV, tstO, lift_some, bltO, rdOs, rdO, val1, val2, bool0, optI, seqItems, truD, ifsT, bind_ok', then_ok, seq_nx, seq_rt, seq_bk, seq_ct, asgT, setO, getO, ipD, mutOk, mutR, LIMn, hi, hio, hc]
  obtain ⟨B2, B3, B4, B5, hbody⟩ : ∃ B2 B3 B4 B5, d5.body = .seq (.asg (.nm 1) (.omt 0 (Str.ofString "rest_run") 4 0 .nil)) (.seq B2 (.seq B3 (.seq B4 (.seq B5 .nil)))) ∧ B2 = .ite (.or (.not (.fld (.var 0) (Str.ofString "good"))) (.or (.cmp .Eq (.var 1) (.str (Str.ofString ""))) (.cmp .In (.ix (.var 1) (.int 0)) (.con (Str.ofString "DIGITS"))))) (.seq (.fst 0 (Str.ofString "good") (.bl false)) (.seq (.ret (.str (Str.ofString ""))) .nil)) .nil ∧
      B3 = .fau 0 (Str.ofString "at") .Add (.blt .min (.cons (.blt .len (.cons (.var 1) .nil)) (.cons (.con (Str.ofString "MOST_SIGNS")) .nil))) ∧ B4 = .fst 0 (Str.ofString "good") (.cmp .NotIn (.slc (.var 1) .nil (.con (Str.ofString "MOST_SIGNS"))) (.con (Str.ofString "RESERVED"))) ∧ B5 = .ret (.slc (.var 1) .nil (.con (Str.ofString "MOST_SIGNS"))) := ⟨_, _, _, _, rfl, rfl, rfl, rfl, rfl⟩
  obtain ⟨hbody, e2, e3, e4, e5⟩ := hbody
  have good : ∀ (x : Rho), g = true → (∀ c, R.head? = some c → ¬ c ∈ digs) → R ≠ [] → evS (sysP.tb n) [0] B2 [some (scD t a g, 1), some (tx R, 0)] = .nx [some (scD t a g, 1), some (tx R, 0)] := by
    intro _ hg hd hne
    subst hg
    cases hRR : R with
    | nil => exact absurd hRR hne
    | cons c r =>
      rw [hRR] at hd hRl
      have hix : ixD (tx (c :: r)) (.int 0) = some (tx [c], 0) := tx_ix (c :: r) 0 c rfl (by omega)
      have hnd := hd c rfl
      have heq : cmpD .Eq (tx (c :: r)) (.str (Str.ofString "")) = some false := by
        show cmpD .Eq (tx (c :: r)) (tx []) = _
        rw [tx_eq]; simp
      simp [ev, evS, mkR, consR, opd, varO, varF, pureF, retV, frzV, tstO, lift_some, bltO, rdOs, rdO, val1, val2, bool0, optI, seqItems, truD, ifsT, bind_ok', then_ok, seq_nx, seq_rt, seq_bk, seq_ct, asgT, setO, getO, ipD, mutOk, mutR, LIMn, e2, fld_good, heq, hix, hcon, con_D, in_digs, hnd]
  have badc : g = false ∨ R = [] ∨ (R.head?.any (fun c => decide (c ∈ digs)) = true) → evS (sysP.tb n) [0] B2 [some (scD t a g, 1), some (tx R, 0)] = .rt (tx []) 0 [some (scD t a false, 1), some (tx R, 0)] := by
    intro hh
    cases g with
    | false => simp [ev, evS, mkR, consR, opd, varO, varF, pureF, retV, frzV, tstO, lift_some, bltO, rdOs, rdO, val1, val2, bool0, optI, seqItems, truD, ifsT, bind_ok', then_ok, seq_nx, seq_rt, seq_bk, seq_ct, asgT, setO, getO, ipD, mutOk, mutR, LIMn, e2, fld_good, fset_good]; exact htxe
    | true =>
      cases hRR : R with
      | nil =>
        have heq : cmpD .Eq (tx []) (.str (Str.ofString "")) = some true := by
          show cmpD .Eq (tx []) (tx []) = _
          rw [tx_eq]; simp
        simp [ev, evS, mkR, consR, opd, varO, varF, pureF, retV, frzV, tstO, lift_some, bltO, rdOs, rdO, val1, val2, bool0, optI, seqItems, truD, ifsT, bind_ok', then_ok, seq_nx, seq_rt, seq_bk, seq_ct, asgT, setO, getO, ipD, mutOk, mutR, LIMn, e2, fld_good, fset_good, heq]; exact htxe
      | cons c r =>
        rw [hRR] at hh hRl
        have hix : ixD (tx (c :: r)) (.int 0) = some (tx [c], 0) := tx_ix (c :: r) 0 c rfl (by omega)
        have hnd : c ∈ digs := by simpa using hh
        have heq : cmpD .Eq (tx (c :: r)) (.str (Str.ofString "")) = some false := by
          show cmpD .Eq (tx (c :: r)) (tx []) = _
          rw [tx_eq]; simp
        simp [ev, evS, mkR, consR, opd, varO, varF, pureF, retV, frzV, tstO, lift_some, bltO, rdOs, rdO, val1, val2, bool0, optI, seqItems, truD, ifsT, bind_ok', then_ok, seq_nx, seq_rt, seq_bk, seq_ct, asgT, setO, getO, ipD, mutOk, mutR, LIMn, e2, fld_good, fset_good, heq, hix, hcon, con_D, in_digs, hnd]; exact htxe
  have s3 : evS (sysP.tb n) [0] B3 [some (scD t a g, 1), some (tx R, 0)] = .nx [some (scD t (a + ((min R.length 8 : Nat) : Int)) g, 1), some (tx R, 0)] := by
    rw [e3]
    refine fau_at _ _ _ t a _ g [some (tx R, 0)] [some (tx R, 0)] 0 ?_
    simp [ev, evS, mkR, consR, opd, varO, varF, pureF, retV, frzV, tstO, lift_some, bltO, rdOs, rdO, val1, val2, bool0, optI, seqItems, truD, ifsT, bind_ok', then_ok, seq_nx, seq_rt, seq_bk, seq_ct, asgT, setO, getO, ipD, mutOk, mutR, LIMn, bltD, hb1, hlen, hcon, con_S, hmin]
  have s4 : ∀ (z : Int) (q : Bool), evS (sysP.tb n) [0] B4 [some (scD t z q, 1), some (tx R, 0)] = .nx [some (scD t z (!decide (R.take 8 ∈ resv)), 1), some (tx R, 0)] := by
    intro z q
    simp [ev, evS, mkR, consR, opd, varO, varF, pureF, retV, frzV, tstO, lift_some, bltO, rdOs, rdO, val1, val2, bool0, optI, seqItems, truD, ifsT, bind_ok', then_ok, seq_nx, seq_rt, seq_bk, seq_ct, asgT, setO, getO, ipD, mutOk, mutR, LIMn, e4, hcon, con_S, con_R, hsl, hnot, fset_good]
  have s5 : ∀ (z : Int) (q : Bool), evS (sysP.tb n) [0] B5 [some (scD t z q, 1), some (tx R, 0)] = .rt (tx (R.take 8)) 0 [some (scD t z q, 1), some (tx R, 0)] := by
    intro z q
    simp [ev, evS, mkR, consR, opd, varO, varF, pureF, retV, frzV, tstO, lift_some, bltO, rdOs, rdO, val1, val2, bool0, optI, seqItems, truD, ifsT, bind_ok', then_ok, seq_nx, seq_rt, seq_bk, seq_ct, asgT, setO, getO, ipD, mutOk, mutR, LIMn, e5, hcon, con_S, hsl]
  unfold nameGo
  rw [hR, runDef_eq rfl, hps, e, hbody, hseq, h1, seq_nx, hseq]
  by_cases hh : g = false ∨ R = [] ∨ (R.head?.any (fun c => decide (c ∈ digs)) = true)
  · rw [if_pos hh, badc hh, seq_rt]; rfl
  · rw [if_neg hh]
    have g1 : g = true := by cases g <;> simp_all
    have g2 : R ≠ [] := fun z => hh (.inr (.inl z))
    have g3 : ∀ c, R.head? = some c → ¬ c ∈ digs := fun c hc z => hh (.inr (.inr (by rw [hc]; simpa using z)))
    rw [good [] g1 g3 g2, seq_nx, hseq, s3, seq_nx, hseq, s4, seq_nx, hseq, s5, seq_rt]
    have ez : (a : Int) + ((min R.length 8 : Nat) : Int) = ((a + min R.length 8 : Nat) : Int) := by omega
    rw [ez]; rfl
end EvL
end
section
set_option Elab.async false
set_option linter.all false
set_option maxRecDepth 100000
set_option maxHeartbeats 4000000
namespace EvL
open PySem PySem.Spec L2 Ev
theorem dig_int : ∀ c ∈ digs, PySem.intText? (st [c]) = some ((c : Int) - 48) := by decide +kernel
/-- one figure within bounds -/
def btw (l : List Nat) (lo hi : Int) : Bool := match l with
  | [c] => decide (c ∈ digs) && (decide (lo ≤ (c : Int) - 48) && decide ((c : Int) - 48 ≤ hi))
  | _ => false
theorem int_eq (i j : Int) : cmpD .Eq (.int i) (.int j) = some (decide (i = j)) := by
  have : eqD (.int i) (.int j) = decide (i = j) := by
    show PyData.eqv (.int i) (.int j) = _
    simp only [PyData.eqv]
    by_cases h : i = j
    · subst h; simp
    · simp [h]
  simp only [cmpD, eqE]
  show (if (true && true) = true then some (eqD (.int i) (.int j)) else none) = _
  rw [this]; rfl
theorem int_le (i j : Int) : cmpD .LtE (.int i) (.int j) = some (decide (i ≤ j)) := rfl
theorem int_lt (i j : Int) : cmpD .Lt (.int i) (.int j) = some (decide (i < j)) := rfl
theorem int_gt (i j : Int) : cmpD .Gt (.int i) (.int j) = some (decide (j < i)) := rfl
theorem r7 (T : Tb) (hcon : T.con = con) (l : List Nat) (lo hi : Int) (hl : l.length ≤ 100000) : runDef T d7 [tx l, .int lo, .int hi] = .ok (.bl (btw l lo hi)) 0 [none, none, none] := by
  have hps : d7.ps = [] := rfl
  have e : startR d7 [tx l, .int lo, .int hi] = [some (tx l, 0), some (.int lo, 0), some (.int hi, 0)] := rfl
  have hlen := len_tx (l := l) (by omega)
  have hb1 : ∀ d, blt1 .len d = lenD d := fun _ => rfl
  have hb2 : ∀ d, blt1 .int d = intD d := fun _ => rfl
  rw [runDef_eq rfl, hps, e]
  match l, hlen with
  | [], hlen => simp [ev, evS, mkR, consR, opd, varO, varF, pureF, retV, frzV, tstO, lift_some, bltO, rdOs, rdO, val1, val2, bool0, optI, seqItems, truD, ifsT, bind_ok', then_ok, seq_nx, seq_rt, seq_bk, seq_ct, asgT, setO, getO, ipD, mutOk, mutR, LIMn, d7, bltD, hb1, hlen, int_eq, finR, maskR, btw]
  | [c], hlen =>
    by_cases hc : c ∈ digs
    · have hi' : intD (tx [c]) = some (.int ((c : Int) - 48), 0) := by
        have k : (st [c]).length ≤ 640 := by rw [st_len, List.length_singleton]; omega
        simp only [tx, intD, dig_int c hc, if_pos k]
      by_cases h1 : lo ≤ (c : Int) - 48
      · simp [ev, evS, mkR, consR, opd, varO, varF, pureF, retV, frzV, tstO, lift_some, bltO, rdOs, rdO, val1, val2, bool0, optI, seqItems, truD, ifsT, bind_ok', then_ok, seq_nx, seq_rt, seq_bk, seq_ct, asgT, setO, getO, ipD, mutOk, mutR, LIMn, d7, bltD, hb1, hb2, hlen, int_eq, int_le, hcon, con_D, in_digs, hc, hi', h1, finR, maskR, btw]
      · simp [ev, evS, mkR, consR, opd, varO, varF, pureF, retV, frzV, tstO, lift_some, bltO, rdOs, rdO, val1, val2, bool0, optI, seqItems, truD, ifsT, bind_ok', then_ok, seq_nx, seq_rt, seq_bk, seq_ct, asgT, setO, getO, ipD, mutOk, mutR, LIMn, d7, bltD, hb1, hb2, hlen, int_eq, int_le, hcon, con_D, in_digs, hc, hi', h1, finR, maskR, btw]
    · simp [ev, evS, mkR, consR, opd, varO, varF, pureF, retV, frzV, tstO, lift_some, bltO, rdOs, rdO, val1, val2, bool0, optI, seqItems, truD, ifsT, bind_ok', then_ok, seq_nx, seq_rt, seq_bk, seq_ct, asgT, setO, getO, ipD, mutOk, mutR, LIMn, d7, bltD, hb1, hlen, int_eq, hcon, con_D, in_digs, hc, finR, maskR, btw]
  | c :: c' :: r, hlen =>
    have hne : ¬ (((c :: c' :: r).length : Nat) : Int) = 1 := by simp only [List.length_cons]; omega
    have hk : cmpD .Eq (.int (((c :: c' :: r).length : Nat) : Int)) (.int 1) = some false := by rw [int_eq, decide_eq_false hne]
    generalize (((c :: c' :: r).length : Nat) : Int) = z at hlen hk
    simp [ev, evS, mkR, consR, opd, varO, varF, pureF, retV, frzV, tstO, lift_some, bltO, rdOs, rdO, val1, val2, bool0, optI, seqItems, truD, ifsT, bind_ok', then_ok, seq_nx, seq_rt, seq_bk, seq_ct, asgT, setO, getO, ipD, mutOk, mutR, LIMn, d7, bltD, hb1, hlen, hk, finR, maskR, btw]
theorem run7 {n : Nat} (h : 7 < n) : (sysP.tb n).run 7 = runDef (sysP.tb 7) d7 := runP h rfl
theorem io7 (n : Nat) : (sysP.tb n).io 7 = [false, false, false] := ioP (d := d7) rfl
theorem call7 {n : Nat} (hn : 7 < n) {ρ : Rho} {l : List Nat} {lo hi : Int} (hl : l.length ≤ 100000) : callR (sysP.tb n) 7 [.v (tx l), .v (.int lo), .v (.int hi)] ρ = .ok (.bl (btw l lo hi), 0) ρ := by
  exact call_ok (io7 n) rfl rfl ((congrFun (run7 hn) _).trans (r7 _ (conP _) l lo hi hl)) rfl
/-- take_count: what it gives, where it stands, whether it is good -/
def cntOk (t : List Nat) (a : Nat) (lo hi : Int) : Bool := btw ((restRun t a).take 1) lo hi
def cntGo (t : List Nat) (a : Nat) (g : Bool) (lo hi : Int) : Int × Nat × Bool :=
  if g = true ∧ cntOk t a lo hi = true then (((restRun t a).headD 0 : Int) - 48, a + 1, true) else (0, a, false)
theorem btw_one {l : List Nat} {lo hi : Int} (h : btw l lo hi = true) : ∃ c, l = [c] ∧ c ∈ digs := by
  match l, h with
  | [c], h =>
    simp only [btw, Bool.and_eq_true, decide_eq_true_eq] at h
    exact ⟨c, rfl, h.1⟩
theorem btw_len {l : List Nat} {lo hi : Int} (h : l.length ≠ 1) : btw l lo hi = false := by
  match l, h with
  | [], _ => rfl
  | [c], h => exact absurd rfl h
  | c :: c' :: r, _ => rfl
theorem t8 (n : Nat) (hn : 7 < n) (R : List Nat) (lo hi : Int) (s0 : Slt) (m : Nat) (hl : R.length ≤ 100000) : (ev (sysP.tb n) [0] p8_0).t [s0, some (.int lo, 0), some (.int hi, 0), some (tx R, 0), some (.int m, 0)] = .ok (decide (m < R.length) && btw (R.take (m + 1)) lo hi) [s0, some (.int lo, 0), some (.int hi, 0), some (tx R, 0), some (.int m, 0)] := by
  have hlen := len_tx (l := R) (by omega)
  have hb1 : ∀ d, blt1 .len d = lenD d := fun _ => rfl
  have hsl : slcD (tx R) none (some ((m : Int) + 1)) = some (tx (R.take (m + 1)), 0) := slc_take (by omega) (m + 1)
  have hc := call7 hn (ρ := [s0, some (.int lo, 0), some (.int hi, 0), some (tx R, 0), some (.int m, 0)]) (l := R.take (m + 1)) (lo := lo) (hi := hi) (by rw [List.length_take]; omega)
  have hlt : cmpD .Lt (.int (m : Int)) (.int (R.length : Int)) = some (decide (m < R.length)) := by
    rw [int_lt]
    congr 1
    simp
  by_cases h : m < R.length
  · simp [ev, evS, mkR, consR, opd, varO, varF, pureF, retV, frzV, tstO, lift_some, bltO, rdOs, rdO, val1, val2, bool0, optI, seqItems, truD, ifsT, bind_ok', then_ok, seq_nx, seq_rt, seq_bk, seq_ct, asgT, setO, getO, ipD, mutOk, mutR, LIMn, p8_0, bltD, hb1, hlen, hlt, h, io7, hsl, binD, hc]
  · simp [ev, evS, mkR, consR, opd, varO, varF, pureF, retV, frzV, tstO, lift_some, bltO, rdOs, rdO, val1, val2, bool0, optI, seqItems, truD, ifsT, bind_ok', then_ok, seq_nx, seq_rt, seq_bk, seq_ct, asgT, setO, getO, ipD, mutOk, mutR, LIMn, p8_0, bltD, hb1, hlen, hlt, h]
/-- take_count -/
theorem r8 (n : Nat) (hn : 7 < n) (t : List Nat) (a : Nat) (g : Bool) (lo hi : Int) (hl : t.length ≤ 100000) : runDef (sysP.tb n) d8 [scD t a g, .int lo, .int hi] = .ok (.int (cntGo t a g lo hi).1) 0 [some (scG t (cntGo t a g lo hi).2, 1), none, none] := by
  have hps : d8.ps = [0] := rfl
  have e : startR d8 [scD t a g, .int lo, .int hi] = [some (scD t a g, 1), some (.int lo, 0), some (.int hi, 0), none, none] := rfl
  have hc := call4 (n := n) (by omega) (ρ := [some (scD t a g, 1), some (.int lo, 0), some (.int hi, 0), none, none]) (i := 0) (t := t) (a := a) (g := g) rfl hl
  have hi' := ins_ok4 t a g (Str.ofString "rest_run") [some (.int lo, 0), some (.int hi, 0), none, none] (by decide +kernel)
  have hio : ((sysP.tb n).io 4).tail = [] := by rw [io4]; rfl
  have hk : cntOk t a lo hi = btw ((restRun t a).take 1) lo hi := rfl
  have hRl0 := restRun_len t a
  unfold cntGo
  generalize hR : restRun t a = R at hc hk hRl0
  rw [hk]
  have hseq : ∀ x y ρ, evS (sysP.tb n) [0] (.seq x y) ρ = (evS (sysP.tb n) [0] x ρ).seq (evS (sysP.tb n) [0] y) := fun _ _ _ => rfl
  have hb2 : ∀ d, blt1 .int d = intD d := fun _ => rfl
  -- the while loop
  have hw : ∃ m : Nat, (m = if btw (R.take 1) lo hi then 1 else 0) ∧ whileLoop (ev (sysP.tb n) [0] p8_0).t (evS (sysP.tb n) [0] p8_1) whileFuel [some (scD t a g, 1), some (.int lo, 0), some (.int hi, 0), some (tx R, 0), some (.int 0, 0)] = .nx [some (scD t a g, 1), some (.int lo, 0), some (.int hi, 0), some (tx R, 0), some (.int m, 0)] := by
    have h0 := t8 n hn R lo hi (some (scD t a g, 1)) 0 (by omega)
    have h1 := t8 n hn R lo hi (some (scD t a g, 1)) 1 (by omega)
    have hfu : whileFuel = 999998 + 1 + 1 := rfl
    rw [hfu]
    cases hb : btw (R.take 1) lo hi with
    | false =>
      refine ⟨0, rfl, ?_⟩
      simp only [Nat.zero_add, hb, Bool.and_false] at h0
      exact while_end h0
    | true =>
      refine ⟨1, rfl, ?_⟩
      have hne : 0 < R.length := by
        obtain ⟨c, hcc, _⟩ := btw_one hb
        have := congrArg List.length hcc
        rw [List.length_take] at this
        simp at this
        omega
      simp only [Nat.zero_add, hb, hne, decide_true, Bool.and_self] at h0
      have hstep : evS (sysP.tb n) [0] p8_1 [some (scD t a g, 1), some (.int lo, 0), some (.int hi, 0), some (tx R, 0), some (.int ((0 : Nat) : Int), 0)] = .nx [some (scD t a g, 1), some (.int lo, 0), some (.int hi, 0), some (tx R, 0), some (.int ((1 : Nat) : Int), 0)] := by
        simp [ev, evS, mkR, consR, opd, varO, varF, pureF, retV, frzV, tstO, lift_some, bltO, rdOs, rdO, val1, val2, bool0, optI, seqItems, truD, ifsT, bind_ok', then_ok, seq_nx, seq_rt, seq_bk, seq_ct, asgT, setO, getO, ipD, mutOk, mutR, LIMn, p8_1]
      have h2 : (decide (1 < R.length) && btw (R.take (1 + 1)) lo hi) = false := by
        by_cases h : 1 < R.length
        · rw [btw_len (by rw [List.length_take]; omega), Bool.and_false]
        · simp [h]
      rw [h2] at h1
      have := while_go (n := 999998 + 1) h0 hstep
      refine Eq.trans this ?_
      exact while_end h1
  obtain ⟨m, hm, hw⟩ := hw
  obtain ⟨B4, B5, B6, hbody, e4, e5, e6⟩ : ∃ B4 B5 B6, d8.body = .seq (.asg (.nm 3) (.omt 0 (Str.ofString "rest_run") 4 0 .nil)) (.seq (.asg (.nm 4) (.int 0)) (.seq (.while_ p8_0 p8_1) (.seq B4 (.seq B5 (.seq B6 .nil))))) ∧ B4 = .fau 0 (Str.ofString "at") .Add (.ife (.fld (.var 0) (Str.ofString "good")) (.var 4) (.int 0)) ∧
      B5 = .fst 0 (Str.ofString "good") (.and (.fld (.var 0) (Str.ofString "good")) (.cmp .Gt (.var 4) (.int 0))) ∧ B6 = .ret (.ife (.fld (.var 0) (Str.ofString "good")) (.blt .int (.cons (.slc (.var 3) .nil (.var 4)) .nil)) (.int 0)) := ⟨_, _, _, rfl, rfl, rfl, rfl⟩
  have h1 : evS (sysP.tb n) [0] (.asg (.nm 3) (.omt 0 (Str.ofString "rest_run") 4 0 .nil)) [some (scD t a g, 1), some (.int lo, 0), some (.int hi, 0), none, none] = .nx [some (scD t a g, 1), some (.int lo, 0), some (.int hi, 0), some (tx R, 0), none] := by
    simp [ev, evS, mkR, consR, opd, varO, varF, pureF, retV, frzV, tstO, lift_some, bltO, rdOs, rdO, val1, val2, bool0, optI, seqItems, truD, ifsT, bind_ok', then_ok, seq_nx, seq_rt, seq_bk, seq_ct, asgT, setO, getO, ipD, mutOk, mutR, LIMn, hi', hio, hc]
  have h2 : evS (sysP.tb n) [0] (.asg (.nm 4) (.int 0)) [some (scD t a g, 1), some (.int lo, 0), some (.int hi, 0), some (tx R, 0), none] = .nx [some (scD t a g, 1), some (.int lo, 0), some (.int hi, 0), some (tx R, 0), some (.int 0, 0)] := by
    simp [ev, evS, mkR, consR, opd, varO, varF, pureF, retV, frzV, tstO, lift_some, bltO, rdOs, rdO, val1, val2, bool0, optI, seqItems, truD, ifsT, bind_ok', then_ok, seq_nx, seq_rt, seq_bk, seq_ct, asgT, setO, getO, ipD, mutOk, mutR, LIMn]
  have h3 : evS (sysP.tb n) [0] (.while_ p8_0 p8_1) [some (scD t a g, 1), some (.int lo, 0), some (.int hi, 0), some (tx R, 0), some (.int 0, 0)] = _ := hw
  have s4 : ∀ d : Int, d = (if g then (m : Int) else 0) → evS (sysP.tb n) [0] B4 [some (scD t a g, 1), some (.int lo, 0), some (.int hi, 0), some (tx R, 0), some (.int m, 0)] = .nx [some (scD t (a + d) g, 1), some (.int lo, 0), some (.int hi, 0), some (tx R, 0), some (.int m, 0)] := by
    intro d hd
    rw [e4]
    refine fau_at _ _ _ t a d g _ [some (.int lo, 0), some (.int hi, 0), some (tx R, 0), some (.int m, 0)] 0 ?_
    rw [hd]
    cases g <;> simp [ev, evS, mkR, consR, opd, varO, varF, pureF, retV, frzV, tstO, lift_some, bltO, rdOs, rdO, val1, val2, bool0, optI, seqItems, truD, ifsT, bind_ok', then_ok, seq_nx, seq_rt, seq_bk, seq_ct, asgT, setO, getO, ipD, mutOk, mutR, LIMn, fld_good]
  have s5 : ∀ z : Int, evS (sysP.tb n) [0] B5 [some (scD t z g, 1), some (.int lo, 0), some (.int hi, 0), some (tx R, 0), some (.int m, 0)] = .nx [some (scD t z (g && decide (0 < m)), 1), some (.int lo, 0), some (.int hi, 0), some (tx R, 0), some (.int m, 0)] := by
    intro z
    cases g with
    | false => simp [ev, evS, mkR, consR, opd, varO, varF, pureF, retV, frzV, tstO, lift_some, bltO, rdOs, rdO, val1, val2, bool0, optI, seqItems, truD, ifsT, bind_ok', then_ok, seq_nx, seq_rt, seq_bk, seq_ct, asgT, setO, getO, ipD, mutOk, mutR, LIMn, e5, fld_good, fset_good]
    | true =>
      have : cmpD .Gt (.int (m : Int)) (.int 0) = some (decide (0 < m)) := by
        rw [int_gt]; congr 1; simp
      simp [ev, evS, mkR, consR, opd, varO, varF, pureF, retV, frzV, tstO, lift_some, bltO, rdOs, rdO, val1, val2, bool0, optI, seqItems, truD, ifsT, bind_ok', then_ok, seq_nx, seq_rt, seq_bk, seq_ct, asgT, setO, getO, ipD, mutOk, mutR, LIMn, e5, fld_good, fset_good, this]
  rw [runDef_eq rfl, hps, e, hbody, hseq, h1, seq_nx, hseq, h2, seq_nx, hseq, h3, seq_nx, hseq, s4 _ rfl, seq_nx, hseq, s5, seq_nx, hseq]
  cases hb : btw (R.take 1) lo hi with
  | false =>
    rw [hb] at hm
    have hm0 : m = 0 := by simpa using hm
    subst hm0
    have s6 : ∀ z : Int, evS (sysP.tb n) [0] B6 [some (scD t z false, 1), some (.int lo, 0), some (.int hi, 0), some (tx R, 0), some (.int ((0 : Nat) : Int), 0)] = .rt (.int 0) 0 [some (scD t z false, 1), some (.int lo, 0), some (.int hi, 0), some (tx R, 0), some (.int ((0 : Nat) : Int), 0)] := by
      intro z
      simp [ev, evS, mkR, consR, opd, varO, varF, pureF, retV, frzV, tstO, lift_some, bltO, rdOs, rdO, val1, val2, bool0, optI, seqItems, truD, ifsT, bind_ok', then_ok, seq_nx, seq_rt, seq_bk, seq_ct, asgT, setO, getO, ipD, mutOk, mutR, LIMn, e6, fld_good]
    have hg0 : (g && decide (0 < 0)) = false := by cases g <;> rfl
    have hz : (a : Int) + (if g = true then ((0 : Nat) : Int) else 0) = (a : Int) := by cases g <;> simp
    rw [hg0, hz, s6, seq_rt]
    simp [finR, maskR, scG]
    rfl
  | true =>
    rw [hb] at hm
    have hm1 : m = 1 := by simpa using hm
    subst hm1
    cases g with
    | false =>
      have s6 : ∀ z : Int, evS (sysP.tb n) [0] B6 [some (scD t z false, 1), some (.int lo, 0), some (.int hi, 0), some (tx R, 0), some (.int ((1 : Nat) : Int), 0)] = .rt (.int 0) 0 [some (scD t z false, 1), some (.int lo, 0), some (.int hi, 0), some (tx R, 0), some (.int ((1 : Nat) : Int), 0)] := by
        intro z
        simp [ev, evS, mkR, consR, opd, varO, varF, pureF, retV, frzV, tstO, lift_some, bltO, rdOs, rdO, val1, val2, bool0, optI, seqItems, truD, ifsT, bind_ok', then_ok, seq_nx, seq_rt, seq_bk, seq_ct, asgT, setO, getO, ipD, mutOk, mutR, LIMn, e6, fld_good]
      have hz : (a : Int) + (if false = true then ((1 : Nat) : Int) else 0) = (a : Int) := by simp
      rw [Bool.false_and, hz, s6, seq_rt]
      simp [finR, maskR, scG]
      rfl
    | true =>
      obtain ⟨c, hcc, hcd⟩ := btw_one hb
      have hhead : R.headD 0 = c := by
        cases R with
        | nil => simp at hcc
        | cons x xs => simp at hcc; simp [hcc]
      have hint : intD (tx [c]) = some (.int ((c : Int) - 48), 0) := by
        have k : (st [c]).length ≤ 640 := by rw [st_len, List.length_singleton]; omega
        simp only [tx, intD, dig_int c hcd, if_pos k]
      have hsl : slcD (tx R) none (some 1) = some (tx [c], 0) := by
        have := slc_take (l := R) (by omega) 1
        rw [hcc] at this
        exact this
      have s6 : ∀ z : Int, evS (sysP.tb n) [0] B6 [some (scD t z true, 1), some (.int lo, 0), some (.int hi, 0), some (tx R, 0), some (.int ((1 : Nat) : Int), 0)] = .rt (.int ((c : Int) - 48)) 0 [some (scD t z true, 1), some (.int lo, 0), some (.int hi, 0), some (tx R, 0), some (.int ((1 : Nat) : Int), 0)] := by
        intro z
        simp [ev, evS, mkR, consR, opd, varO, varF, pureF, retV, frzV, tstO, lift_some, bltO, rdOs, rdO, val1, val2, bool0, optI, seqItems, truD, ifsT, bind_ok', then_ok, seq_nx, seq_rt, seq_bk, seq_ct, asgT, setO, getO, ipD, mutOk, mutR, LIMn, e6, fld_good, hsl, bltD, hb2, hint]
      have hg1 : (true && decide (0 < 1)) = true := rfl
      have hz : (a : Int) + (if true = true then ((1 : Nat) : Int) else 0) = ((a + 1 : Nat) : Int) := by simp
      rw [hg1, hz, s6, seq_rt]
      rw [if_pos ⟨rfl, rfl⟩, hhead]
      rfl
end EvL
end
section
set_option Elab.async false
set_option linter.all false
set_option maxRecDepth 100000
set_option maxHeartbeats 4000000
namespace EvL
open PySem PySem.Spec L2 Ev
/-- Scan(text) -/
theorem r23 (T : Tb) (l : List Nat) : runDef T d23 [.ins 0 [], tx l] = .ok .non 0 [some (scD l 0 true, 1), none] := rfl
theorem run23 {n : Nat} (h : 23 < n) : (sysP.tb n).run 23 = runDef (sysP.tb 23) d23 := runP h rfl
theorem io23 (n : Nat) : (sysP.tb n).io 23 = [true, false] := ioP (d := d23) rfl
/-- take_end -/
theorem r24 (T : Tb) (t : List Nat) (a : Nat) (g : Bool) (hl : t.length ≤ 100000) : runDef T d24 [scD t a g] = .ok .non 0 [some (scD t a (g && decide (a = t.length)), 1)] := by
  have hps : d24.ps = [0] := rfl
  have e : startR d24 [scD t a g] = [some (scD t a g, 1)] := rfl
  have hlen := len_tx (l := t) (by omega)
  have hb1 : ∀ d, blt1 .len d = lenD d := fun _ => rfl
  have heq : cmpD .Eq (.int (a : Int)) (.int (t.length : Int)) = some (decide (a = t.length)) := by
    have : ((a : Int) = (t.length : Int)) = (a = t.length) := propext ⟨fun h => by omega, fun h => by omega⟩
    rw [int_eq]; simp only [this]
  rw [runDef_eq rfl, hps, e]
  cases g with
  | false => simp [ev, evS, mkR, consR, opd, varO, varF, pureF, retV, frzV, tstO, lift_some, bltO, rdOs, rdO, val1, val2, bool0, optI, seqItems, truD, ifsT, bind_ok', then_ok, seq_nx, seq_rt, seq_bk, seq_ct, asgT, setO, getO, ipD, mutOk, mutR, LIMn, d24, fld_good, fset_good]; rfl
  | true => simp [ev, evS, mkR, consR, opd, varO, varF, pureF, retV, frzV, tstO, lift_some, bltO, rdOs, rdO, val1, val2, bool0, optI, seqItems, truD, ifsT, bind_ok', then_ok, seq_nx, seq_rt, seq_bk, seq_ct, asgT, setO, getO, ipD, mutOk, mutR, LIMn, d24, fld_good, fld_at, fld_text, bltD, hb1, hlen, heq, fset_good]; rfl
theorem run24 {n : Nat} (h : 24 < n) : (sysP.tb n).run 24 = runDef (sysP.tb 24) d24 := runP h rfl
theorem io24 (n : Nat) : (sysP.tb n).io 24 = [true] := ioP (d := d24) rfl
theorem call24 {n : Nat} (hn : 24 < n) {ρ : Rho} {i : Nat} {t : List Nat} {a : Nat} {g : Bool} (hρ : ρ[i]? = some (some (scD t a g, 1))) (hl : t.length ≤ 100000) : callR (sysP.tb n) 24 [.s i] ρ = .ok (.non, 0) (ρ.set i (some (scD t a (g && decide (a = t.length)), 1))) := by
  refine call_ok (io24 n) rfl ?_ ((congrFun (run24 hn) _).trans (r24 _ t a g hl)) rfl
  simp [rdOs, rdO, hρ]
theorem run5 {n : Nat} (h : 5 < n) : (sysP.tb n).run 5 = runDef (sysP.tb 5) d5 := runP h rfl
theorem io5 (n : Nat) : (sysP.tb n).io 5 = [true] := ioP (d := d5) rfl
theorem call5 {n : Nat} (hn : 5 < n) {ρ : Rho} {i : Nat} {t : List Nat} {a : Nat} {g : Bool} (hρ : ρ[i]? = some (some (scD t a g, 1))) (hl : t.length ≤ 100000) : callR (sysP.tb n) 5 [.s i] ρ = .ok (tx (nameGo t a g).1, 0) (ρ.set i (some (scG t (nameGo t a g).2, 1))) := by
  refine call_ok (io5 n) rfl ?_ ((congrFun (run5 hn) _).trans (r5 5 (by omega) t a g hl)) rfl
  simp [rdOs, rdO, hρ]
theorem run8 {n : Nat} (h : 8 < n) : (sysP.tb n).run 8 = runDef (sysP.tb 8) d8 := runP h rfl
theorem io8 (n : Nat) : (sysP.tb n).io 8 = [true, false, false] := ioP (d := d8) rfl
theorem call8 {n : Nat} (hn : 8 < n) {ρ : Rho} {i : Nat} {t : List Nat} {a : Nat} {g : Bool} {lo hi : Int} (hρ : ρ[i]? = some (some (scD t a g, 1))) (hl : t.length ≤ 100000) : callR (sysP.tb n) 8 [.s i, .v (.int lo), .v (.int hi)] ρ = .ok (.int (cntGo t a g lo hi).1, 0) (ρ.set i (some (scG t (cntGo t a g lo hi).2, 1))) := by
  refine call_ok (io8 n) rfl ?_ ((congrFun (run8 hn) _).trans (r8 8 (by omega) t a g lo hi hl)) rfl
  simp [rdOs, rdO, hρ]
end EvL
end
section
set_option Elab.async false
set_option linter.all false
set_option maxRecDepth 100000
set_option maxHeartbeats 4000000
namespace EvL
open PySem PySem.Spec L2 Ev
/-! take_row -/
def rowT (t : List Nat) (f : List Int) (a : Nat) (g : Bool) : Bool := g && (decide (f = []) || decide (sgnAt t a = [32]))
def rowA (t : List Nat) (a : Nat) (g : Bool) (lo hi : Int) : Int × Nat × Bool := cntGo t (wordGo t [32] a g).1 (wordGo t [32] a g).2 lo hi
def rowGo (t : List Nat) (lo hi : Int) : Nat → List Int → Nat → Bool → List Int × Nat × Bool
  | 0, f, a, g => (f, a, g)
  | k + 1, f, a, g => if rowT t f a g = true then rowGo t lo hi k (f ++ [(rowA t a g lo hi).1]) (rowA t a g lo hi).2.1 (rowA t a g lo hi).2.2 else (f, a, g)
abbrev s10 (t : List Nat) (a : Int) (g : Bool) (m : Nat) (lo hi : Int) (f : List Int) : Rho := [some (scD t a g, 1), some (.int m, 0), some (.int lo, 0), some (.int hi, 0), some (.lst (f.map D.int), 1)]
theorem okInts : ∀ f : List Int, okAll 59 (f.map D.int) = true
  | [] => rfl
  | x :: f => by simp only [List.map_cons, okAll, okAt, Bool.true_and]; exact okInts f
theorem lst_eq_nil (f : List Int) : cmpD .Eq (.lst (f.map D.int)) (.lst []) = some (decide (f = [])) := by
  have h1 : okD (.lst (f.map D.int)) = true := okInts f
  have h2 : okD (.lst []) = true := rfl
  have h3 : eqD (.lst (f.map D.int)) (.lst []) = decide (f = []) := by
    cases f with
    | nil => rfl
    | cons x f => 
      show PyData.eqv (.list (pys (D.int x :: f.map D.int))) (.list (pys [])) = _
      simp [pys, PyData.eqv, PyData.eqvAll]
  simp only [cmpD, eqE, h1, h2, h3]
  rfl
theorem t10 (n : Nat) (hn : 2 < n) (t : List Nat) (a : Nat) (g : Bool) (m : Nat) (lo hi : Int) (f : List Int) (hl : t.length ≤ 100000) (hf : f.length ≤ 100000) : (ev (sysP.tb n) [0] p10_0).t (s10 t a g m lo hi f) = .ok (g && (decide (f.length < m) && (decide (f = []) || decide (sgnAt t a = [32])))) (s10 t a g m lo hi f) := by
  have hc := call2 hn (ρ := s10 t a g m lo hi f) (i := 0) (t := t) (a := a) (g := g) rfl (by omega)
  have hi2 := ins_ok t a g [some (.int m, 0), some (.int lo, 0), some (.int hi, 0), some (.lst (f.map D.int), 1)]
  have hio : ((sysP.tb n).io 2).tail = [] := by rw [io2]; rfl
  have hb1 : ∀ d, blt1 .len d = lenD d := fun _ => rfl
  have hlen : lenD (.lst (f.map D.int)) = some (.int f.length, 0) := by simp [lenD]
  have hlt : cmpD .Lt (.int (f.length : Int)) (.int (m : Int)) = some (decide (f.length < m)) := by
    have : ((f.length : Int) < (m : Int)) = (f.length < m) := propext ⟨fun h => by omega, fun h => by omega⟩
    rw [int_lt]; simp only [this]
  have hnil := lst_eq_nil f
  have hsp : cmpD .Eq (tx (sgnAt t a)) (.str (Str.ofString " ")) = some (decide (sgnAt t a = [32])) := tx_eq _ _
  simp only [s10] at hc ⊢
  cases g with
  | false => simp [ev, evS, mkR, consR, opd, varO, varF, pureF, retV, frzV, tstO, lift_some, bltO, rdOs, rdO, val1, val2, bool0, optI, seqItems, truD, ifsT, bind_ok', then_ok, seq_nx, seq_rt, seq_bk, seq_ct, asgT, setO, getO, ipD, mutOk, mutR, LIMn, p10_0, fld_good]
  | true =>
    by_cases h1 : f.length < m
    · by_cases h2 : f = []
      · subst h2
        simp [ev, evS, mkR, consR, opd, varO, varF, pureF, retV, frzV, tstO, lift_some, bltO, rdOs, rdO, val1, val2, bool0, optI, seqItems, truD, ifsT, bind_ok', then_ok, seq_nx, seq_rt, seq_bk, seq_ct, asgT, setO, getO, ipD, mutOk, mutR, LIMn, p10_0, fld_good, bltD, hb1, hlen, hlt, h1, lenD, cmpD, eqE, okD, okAt, okAll, eqD, py, pys, PyData.eqv, PyData.eqvAll]
        have h1' : 0 < m := h1
        simp [h1']
      · simp [ev, evS, mkR, consR, opd, varO, varF, pureF, retV, frzV, tstO, lift_some, bltO, rdOs, rdO, val1, val2, bool0, optI, seqItems, truD, ifsT, bind_ok', then_ok, seq_nx, seq_rt, seq_bk, seq_ct, asgT, setO, getO, ipD, mutOk, mutR, LIMn, p10_0, fld_good, bltD, hb1, hlen, hlt, h1, hnil, h2, hi2, hio, hc, hsp]
    · simp [ev, evS, mkR, consR, opd, varO, varF, pureF, retV, frzV, tstO, lift_some, bltO, rdOs, rdO, val1, val2, bool0, optI, seqItems, truD, ifsT, bind_ok', then_ok, seq_nx, seq_rt, seq_bk, seq_ct, asgT, setO, getO, ipD, mutOk, mutR, LIMn, p10_0, fld_good, bltD, hb1, hlen, hlt, h1]
theorem bb10 (n : Nat) (hn : 8 < n) (t : List Nat) (a : Nat) (g : Bool) (m : Nat) (lo hi : Int) (f : List Int) (hl : t.length ≤ 100000) (hf : f.length ≤ 100000) : evS (sysP.tb n) [0] p10_1 (s10 t a g m lo hi f) = .nx (s10 t (rowA t a g lo hi).2.1 (rowA t a g lo hi).2.2 m lo hi (f ++ [(rowA t a g lo hi).1])) := by
  have hi3 := ins_ok4 t a g (Str.ofString "take_word") [some (.int m, 0), some (.int lo, 0), some (.int hi, 0), some (.lst (f.map D.int), 1)] (by decide +kernel)
  have hc3 : callR (sysP.tb n) 3 [.s 0, .v (.str (Str.ofString " "))] (s10 t a g m lo hi f) = .ok (.non, 0) ((s10 t a g m lo hi f).set 0 (some (scG t (wordGo t [32] a g), 1))) := call3 (n := n) (by omega) (ρ := s10 t a g m lo hi f) (i := 0) (w := [32]) rfl (by omega)
  have hio3 : ((sysP.tb n).io 3).tail = [false] := by rw [io3]; rfl
  have hio8 : ((sysP.tb n).io 8).tail = [false, false] := by rw [io8]; rfl
  unfold rowA
  generalize hw : wordGo t [32] a g = w at hc3
  obtain ⟨a2, g2⟩ := w
  have hi8 := ins_ok4 t a2 g2 (Str.ofString "take_count") [some (.int m, 0), some (.int lo, 0), some (.int hi, 0), some (.lst (f.map D.int), 1)] (by decide +kernel)
  have hc8 := call8 (n := n) hn (ρ := s10 t a2 g2 m lo hi f) (i := 0) (t := t) (a := a2) (g := g2) (lo := lo) (hi := hi) rfl hl
  have hsg : scG t (a2, g2) = scD t a2 g2 := rfl
  have k : (f.map D.int).length < 16777216 := by rw [List.length_map]; omega
  rw [List.length_map] at k
  simp only [s10, hsg] at hc3 hc8 ⊢
  simp [ev, evS, mkR, consR, opd, varO, varF, pureF, retV, frzV, tstO, lift_some, bltO, rdOs, rdO, val1, val2, bool0, optI, seqItems, truD, ifsT, bind_ok', then_ok, seq_nx, seq_rt, seq_bk, seq_ct, asgT, setO, getO, ipD, mutOk, mutR, LIMn, p10_1, hi3, hio3, hc3, hi8, hio8, hc8, mutD, appendD, k]
  rfl
theorem w10 (n : Nat) (hn : 8 < n) (t : List Nat) (m : Nat) (lo hi : Int) (hl : t.length ≤ 100000) (hm : m ≤ 100) : ∀ (k : Nat) (f : List Int) (a : Nat) (g : Bool) (u : Nat), f.length + k = m → k < u → whileLoop (ev (sysP.tb n) [0] p10_0).t (evS (sysP.tb n) [0] p10_1) u (s10 t a g m lo hi f) = .nx (s10 t (rowGo t lo hi k f a g).2.1 (rowGo t lo hi k f a g).2.2 m lo hi (rowGo t lo hi k f a g).1) := by
  intro k
  induction k with
  | zero =>
    intro f a g u h1 h2
    obtain ⟨u, rfl⟩ : ∃ q, u = q + 1 := ⟨u - 1, by omega⟩
    have ht := t10 n (by omega) t a g m lo hi f hl (by omega)
    have hlt : ¬ f.length < m := by omega
    simp only [hlt, decide_false, Bool.false_and, Bool.and_false] at ht
    exact while_end ht
  | succ k ih =>
    intro f a g u h1 h2
    obtain ⟨u, rfl⟩ : ∃ q, u = q + 1 := ⟨u - 1, by omega⟩
    have ht := t10 n (by omega) t a g m lo hi f hl (by omega)
    have hlt : f.length < m := by omega
    simp only [hlt, decide_true, Bool.true_and] at ht
    have hrow : (g && (decide (f = []) || decide (sgnAt t a = [32]))) = rowT t f a g := rfl
    rw [hrow] at ht
    unfold rowGo
    cases hr : rowT t f a g with
    | false =>
      rw [hr] at ht
      rw [if_neg (by simp)]
      exact while_end ht
    | true =>
      rw [hr] at ht
      rw [if_pos rfl, while_go ht (bb10 n hn t a g m lo hi f hl (by omega))]
      exact ih _ _ _ u (by simp only [List.length_append, List.length_cons, List.length_nil]; omega) (by omega)
/-- take_row -/
theorem r10 (n : Nat) (hn : 8 < n) (t : List Nat) (a : Nat) (g : Bool) (m : Nat) (lo hi : Int) (hl : t.length ≤ 100000) (hm : m ≤ 100) : runDef (sysP.tb n) d10 [scD t a g, .int m, .int lo, .int hi] = .ok (.tup ((rowGo t lo hi m [] a g).1.map D.int)) 0 [some (scG t (rowGo t lo hi m [] a g).2, 1), none, none, none] := by
  have hps : d10.ps = [0] := rfl
  have e : startR d10 [scD t a g, .int m, .int lo, .int hi] = [some (scD t a g, 1), some (.int m, 0), some (.int lo, 0), some (.int hi, 0), none] := rfl
  have hseq : ∀ x y ρ, evS (sysP.tb n) [0] (.seq x y) ρ = (evS (sysP.tb n) [0] x ρ).seq (evS (sysP.tb n) [0] y) := fun _ _ _ => rfl
  have hb1 : ∀ d, blt1 .tuple d = tupleD d := fun _ => rfl
  have hbody : d10.body = .seq (.asg (.nm 4) (.lst .nil)) (.seq (.while_ p10_0 p10_1) (.seq (.ret (.blt .tuple (.cons (.var 4) .nil))) .nil)) := rfl
  have h1 : evS (sysP.tb n) [0] (.asg (.nm 4) (.lst .nil)) [some (scD t a g, 1), some (.int m, 0), some (.int lo, 0), some (.int hi, 0), none] = .nx (s10 t a g m lo hi []) := by
    simp [ev, evS, mkR, consR, opd, varO, varF, pureF, retV, frzV, tstO, lift_some, bltO, rdOs, rdO, val1, val2, bool0, optI, seqItems, truD, ifsT, bind_ok', then_ok, seq_nx, seq_rt, seq_bk, seq_ct, asgT, setO, getO, ipD, mutOk, mutR, LIMn, s10]
  have h2 : evS (sysP.tb n) [0] (.while_ p10_0 p10_1) (s10 t a g m lo hi []) = _ := w10 n hn t m lo hi hl hm m [] a g whileFuel (by simp) (by have : whileFuel = 1000000 := rfl; omega)
  rw [runDef_eq rfl, hps, e, hbody, hseq, h1, seq_nx, hseq, h2, seq_nx]
  generalize rowGo t lo hi m [] a g = q
  obtain ⟨f, a2, g2⟩ := q
  have h3 : evS (sysP.tb n) [0] (.ret (.blt .tuple (.cons (.var 4) .nil))) (s10 t a2 g2 m lo hi f) = .rt (.tup (f.map D.int)) 0 (s10 t a2 g2 m lo hi f) := by
    simp [ev, evS, mkR, consR, opd, varO, varF, pureF, retV, frzV, tstO, lift_some, bltO, rdOs, rdO, val1, val2, bool0, optI, seqItems, truD, ifsT, bind_ok', then_ok, seq_nx, seq_rt, seq_bk, seq_ct, asgT, setO, getO, ipD, mutOk, mutR, LIMn, s10, bltD, hb1, tupleD]
  rw [hseq, h3, seq_rt]
  rfl
end EvL
end
section
set_option Elab.async false
set_option linter.all false
set_option maxRecDepth 100000
set_option maxHeartbeats 4000000
namespace EvL
open PySem PySem.Spec L2 Ev
/-- how many signs of a word stand at a -/
def shareGo (t : List Nat) : List Nat → Nat → Nat
  | [], _ => 0
  | c :: w, a => if sgnAt t a = [c] then shareGo t w (a + 1) + 1 else 0
theorem run10 {n : Nat} (h : 10 < n) : (sysP.tb n).run 10 = runDef (sysP.tb 10) d10 := runP h rfl
theorem io10 (n : Nat) : (sysP.tb n).io 10 = [true, false, false, false] := ioP (d := d10) rfl
theorem call10 {n : Nat} (hn : 10 < n) {ρ : Rho} {i : Nat} {t : List Nat} {a m : Nat} {g : Bool} {lo hi : Int} (hρ : ρ[i]? = some (some (scD t a g, 1))) (hl : t.length ≤ 100000) (hm : m ≤ 100) : callR (sysP.tb n) 10 [.s i, .v (.int m), .v (.int lo), .v (.int hi)] ρ = .ok (.tup ((rowGo t lo hi m [] a g).1.map D.int), 0) (ρ.set i (some (scG t (rowGo t lo hi m [] a g).2, 1))) := by
  refine call_ok (io10 n) rfl ?_ ((congrFun (run10 hn) _).trans (r10 10 (by omega) t a g m lo hi hl hm)) rfl
  simp [rdOs, rdO, hρ]
theorem slc_mid {l : List Nat} (h : l.length ≤ 1000000) (a : Nat) : slcD (tx l) (some (a : Int)) (some ((a : Int) + 1)) = some (tx (sgnAt l a), 0) := by
  have k1 : (st l).length ≤ LIM := by rw [st_len, LIMn]; omega
  have hm : cutL l (some (a : Int)) (some ((a : Int) + 1)) = (l.drop a).take 1 := cut_mid l a 1
  simp only [tx, slcD, if_pos k1, st_list, hm]
  rfl
theorem t14 (T : Tb) (t w : List Nat) (a k : Nat) (g : Bool) (hl : t.length ≤ 100000) (hw : w.length ≤ 100000) : (ev T [0] p14_0).t [some (scD t a g, 1), some (tx w, 0), some (.int k, 0)] = .ok (match w[k]? with
    | some c => decide (sgnAt t (a + k) = [c])
    | none => false) [some (scD t a g, 1), some (tx w, 0), some (.int k, 0)] := by
  have hb1 : ∀ d, blt1 .len d = lenD d := fun _ => rfl
  have hlen := len_tx (l := w) (by omega)
  have hsl := slc_mid (l := t) (by omega) (a + k)
  have hsl2 : slcD (tx t) (some ((a : Int) + (k : Int))) (some ((a : Int) + (k : Int) + 1)) = some (tx (sgnAt t (a + k)), 0) := by
    have e : ((a + k : Nat) : Int) = (a : Int) + (k : Int) := by omega
    rw [e] at hsl; exact hsl
  by_cases h : k < w.length
  · have h1 : w[k]? = some w[k] := List.getElem?_eq_getElem h
    have h2 := tx_ix w k w[k] h1 (by omega)
    have h3 : cmpD .Lt (.int (k : Int)) (.int (w.length : Int)) = some true := by rw [int_lt]; simp [h]
    have h4 := tx_eq (sgnAt t (a + k)) [w[k]]
    simp [ev, evS, mkR, consR, opd, varO, varF, pureF, retV, frzV, tstO, lift_some, bltO, rdOs, rdO, val1, val2, bool0, optI, seqItems, truD, ifsT, bind_ok', then_ok, seq_nx, seq_rt, seq_bk, seq_ct, asgT, setO, getO, ipD, mutOk, mutR, LIMn, p14_0, fld_text, fld_at, bltD, hb1, hlen, h3, binD, hsl2, h2, h4, h1]
  · have h1 : w[k]? = none := List.getElem?_eq_none (by omega)
    have h3 : cmpD .Lt (.int (k : Int)) (.int (w.length : Int)) = some false := by rw [int_lt]; simp; omega
    simp [ev, evS, mkR, consR, opd, varO, varF, pureF, retV, frzV, tstO, lift_some, bltO, rdOs, rdO, val1, val2, bool0, optI, seqItems, truD, ifsT, bind_ok', then_ok, seq_nx, seq_rt, seq_bk, seq_ct, asgT, setO, getO, ipD, mutOk, mutR, LIMn, p14_0, bltD, hb1, hlen, h3, h1]
theorem w14 (T : Tb) (t w : List Nat) (a : Nat) (g : Bool) (hl : t.length ≤ 100000) (hw : w.length ≤ 100000) : ∀ (r : List Nat) (k u : Nat), w.drop k = r → r.length < u → whileLoop (ev T [0] p14_0).t (evS T [0] p14_1) u [some (scD t a g, 1), some (tx w, 0), some (.int k, 0)] = .nx [some (scD t a g, 1), some (tx w, 0), some (.int ((k + shareGo t r (a + k) : Nat) : Int), 0)]
  | [], k, u, h1, h2 => by
    obtain ⟨u, rfl⟩ : ∃ q, u = q + 1 := ⟨u - 1, by simp at h2; omega⟩
    have ht := t14 T t w a k g hl hw
    have hn : w[k]? = none := List.getElem?_eq_none (List.drop_eq_nil_iff.mp h1)
    rw [hn] at ht
    exact while_end ht
  | c :: r, k, u, h1, h2 => by
    obtain ⟨u, rfl⟩ : ∃ q, u = q + 1 := ⟨u - 1, by simp at h2; omega⟩
    have ht := t14 T t w a k g hl hw
    have hn : w[k]? = some c := by
      have := congrArg (fun l => l[0]?) h1
      simpa using this
    have hd : w.drop (k + 1) = r := by
      rw [← List.tail_drop, h1]; rfl
    rw [hn] at ht
    simp only at ht
    unfold shareGo
    by_cases hs : sgnAt t (a + k) = [c]
    · rw [if_pos hs]
      rw [decide_eq_true hs] at ht
      have hstep : evS T [0] p14_1 [some (scD t a g, 1), some (tx w, 0), some (.int k, 0)] = .nx [some (scD t a g, 1), some (tx w, 0), some (.int ((k + 1 : Nat) : Int), 0)] := by
        simp [ev, evS, mkR, consR, opd, varO, varF, pureF, retV, frzV, tstO, lift_some, bltO, rdOs, rdO, val1, val2, bool0, optI, seqItems, truD, ifsT, bind_ok', then_ok, seq_nx, seq_rt, seq_bk, seq_ct, asgT, setO, getO, ipD, mutOk, mutR, LIMn, p14_1]
      rw [while_go ht hstep, w14 T t w a g hl hw r (k + 1) u hd (by simp at h2; omega)]
      rw [show k + 1 + shareGo t r (a + (k + 1)) = k + (shareGo t r (a + k + 1) + 1) by rw [show a + (k + 1) = a + k + 1 by omega]; omega]
    · rw [if_neg hs]
      rw [decide_eq_false hs] at ht
      exact while_end ht
/-- shared_with -/
theorem r14 (T : Tb) (t w : List Nat) (a : Nat) (g : Bool) (hl : t.length ≤ 100000) (hw : w.length ≤ 100000) : runDef T d14 [scD t a g, tx w] = .ok (.int (shareGo t w a)) 0 [some (scD t a g, 1), none] := by
  have hps : d14.ps = [0] := rfl
  have e : startR d14 [scD t a g, tx w] = [some (scD t a g, 1), some (tx w, 0), none] := rfl
  have hseq : ∀ x y ρ, evS T [0] (.seq x y) ρ = (evS T [0] x ρ).seq (evS T [0] y) := fun _ _ _ => rfl
  have hbody : d14.body = .seq (.asg (.nm 2) (.int 0)) (.seq (.while_ p14_0 p14_1) (.seq (.ret (.var 2)) .nil)) := rfl
  have h1 : evS T [0] (.asg (.nm 2) (.int 0)) [some (scD t a g, 1), some (tx w, 0), none] = .nx [some (scD t a g, 1), some (tx w, 0), some (.int ((0 : Nat) : Int), 0)] := by simp [ev, evS, mkR, consR, opd, varO, varF, pureF, retV, frzV, tstO, lift_some, bltO, rdOs, rdO, val1, val2, bool0, optI, seqItems, truD, ifsT, bind_ok', then_ok, seq_nx, seq_rt, seq_bk, seq_ct, asgT, setO, getO, ipD, mutOk, mutR, LIMn]
  have h2 : evS T [0] (.while_ p14_0 p14_1) [some (scD t a g, 1), some (tx w, 0), some (.int ((0 : Nat) : Int), 0)] = _ := w14 T t w a g hl hw w 0 whileFuel rfl (by have : whileFuel = 1000000 := rfl; omega)
  rw [runDef_eq rfl, hps, e, hbody, hseq, h1, seq_nx, hseq, h2, seq_nx, hseq]
  simp only [Nat.zero_add, Nat.add_zero]
  rfl
theorem run14 {n : Nat} (h : 14 < n) : (sysP.tb n).run 14 = runDef (sysP.tb 14) d14 := runP h rfl
theorem io14 (n : Nat) : (sysP.tb n).io 14 = [true, false] := ioP (d := d14) rfl
theorem call14 {n : Nat} (hn : 14 < n) {ρ : Rho} {i : Nat} {t w : List Nat} {a : Nat} {g : Bool} (hρ : ρ[i]? = some (some (scD t a g, 1))) (hl : t.length ≤ 100000) (hw : w.length ≤ 100000) : callR (sysP.tb n) 14 [.s i, .v (tx w)] ρ = .ok (.int (shareGo t w a), 0) (ρ.set i (some (scD t a g, 1))) := by
  refine call_ok (io14 n) rfl ?_ ((congrFun (run14 hn) _).trans (r14 _ t w a g hl hw)) rfl
  simp [rdOs, rdO, hρ]
/-- take_word, by how many signs are shared -/
theorem word_share (t : List Nat) : ∀ (w : List Nat) (a : Nat), wordGo t w a true = (a + shareGo t w a, decide (shareGo t w a = w.length))
  | [], a => rfl
  | c :: w, a => by
    unfold wordGo shareGo
    by_cases h : sgnAt t a = [c]
    · rw [if_pos ⟨rfl, h⟩, if_pos h, word_share t w (a + 1)]
      simp only [List.length_cons, Nat.add_right_cancel_iff]
      rw [show a + 1 + shareGo t w (a + 1) = a + (shareGo t w (a + 1) + 1) by omega]
    · rw [if_neg (fun z => h z.2), if_neg h]
      simp
end EvL
end
section
set_option Elab.async false
set_option linter.all false
set_option maxRecDepth 100000
set_option maxHeartbeats 4000000
namespace EvL
open PySem PySem.Spec L2 Ev
theorem tx_ne' (l m : List Nat) : cmpD .NotEq (tx l) (tx m) = some (!decide (l = m)) := tx_ne l m
theorem t26 (T : Tb) (t w : List Nat) (a k c : Nat) (o : Int) (hl : t.length ≤ 100000) : evS T [] p26_0 [some (tx t, 0), some (.int a, 0), some (tx w, 0), some (.int o, 0), some (.int k, 0), some (tx [c], 0)] =
    if sgnAt t (a + k) = [c] then .nx [some (tx t, 0), some (.int a, 0), some (tx w, 0), some (.int (o + 1), 0), some (.int k, 0), some (tx [c], 0)] else .bk [some (tx t, 0), some (.int a, 0), some (tx w, 0), some (.int o, 0), some (.int k, 0), some (tx [c], 0)] := by
  have hsl := slc_mid (l := t) (by omega) (a + k)
  have hsl2 : slcD (tx t) (some ((a : Int) + (k : Int))) (some ((a : Int) + (k : Int) + 1)) = some (tx (sgnAt t (a + k)), 0) := by
    have e : ((a + k : Nat) : Int) = (a : Int) + (k : Int) := by omega
    rw [e] at hsl; exact hsl
  have hne := tx_ne' (sgnAt t (a + k)) [c]
  by_cases h : sgnAt t (a + k) = [c]
  · rw [h] at hsl2 hne
    simp [ev, evS, mkR, consR, opd, varO, varF, pureF, retV, frzV, tstO, lift_some, bltO, rdOs, rdO, val1, val2, bool0, optI, seqItems, truD, ifsT, bind_ok', then_ok, seq_nx, seq_rt, seq_bk, seq_ct, asgT, setO, getO, ipD, mutOk, mutR, LIMn, p26_0, binD, hsl2, hne, h]
  · simp [ev, evS, mkR, consR, opd, varO, varF, pureF, retV, frzV, tstO, lift_some, bltO, rdOs, rdO, val1, val2, bool0, optI, seqItems, truD, ifsT, bind_ok', then_ok, seq_nx, seq_rt, seq_bk, seq_ct, asgT, setO, getO, ipD, mutOk, mutR, LIMn, p26_0, binD, hsl2, hne, h]
theorem l26 (T : Tb) (t w0 : List Nat) (a : Nat) (hl : t.length ≤ 100000) : ∀ (w : List Nat) (k : Nat) (o : Int) (x y : Slt), ∃ x' y', forLoop (bindT [] (.tp (.cons (.nm 4) (.cons (.nm 5) .nil)))) (evS T [] p26_0) (enumD (k : Int) (w.map sgn1)) [some (tx t, 0), some (.int a, 0), some (tx w0, 0), some (.int o, 0), x, y] =
    .nx [some (tx t, 0), some (.int a, 0), some (tx w0, 0), some (.int (o + shareGo t w (a + k)), 0), x', y']
  | [], k, o, x, y => ⟨x, y, by simp [enumD, forLoop, shareGo]⟩
  | c :: w, k, o, x, y => by
    have hbd : bindT [] (.tp (.cons (.nm 4) (.cons (.nm 5) .nil))) (.tup [.int k, sgn1 c]) [some (tx t, 0), some (.int a, 0), some (tx w0, 0), some (.int o, 0), x, y] = some [some (tx t, 0), some (.int a, 0), some (tx w0, 0), some (.int o, 0), some (.int k, 0), some (tx [c], 0)] := by
      simp [bindT, bindTs, sgn_tx]
    have hstep := t26 T t w0 a k c o hl
    simp only [List.map_cons, enumD, forLoop, hbd, shareGo]
    by_cases h : sgnAt t (a + k) = [c]
    · simp only [if_pos h] at hstep ⊢
      simp only [hstep]
      obtain ⟨x', y', ih⟩ := l26 T t w0 a hl w (k + 1) (o + 1) (some (.int k, 0)) (some (tx [c], 0))
      refine ⟨x', y', ?_⟩
      have e1 : ((k + 1 : Nat) : Int) = (k : Int) + 1 := by omega
      rw [e1] at ih
      rw [ih]
      have e2 : o + 1 + (shareGo t w (a + (k + 1)) : Int) = o + ((shareGo t w (a + k + 1) + 1 : Nat) : Int) := by
        rw [show a + (k + 1) = a + k + 1 by omega]; omega
      rw [e2]
    · simp only [if_neg h] at hstep ⊢
      simp only [hstep]
      exact ⟨some (.int k, 0), some (tx [c], 0), by simp⟩
/-- _law_word_over -/
theorem r26 (T : Tb) (t w : List Nat) (a : Nat) (hl : t.length ≤ 100000) (hw : w.length ≤ 100000) : runDef T d26 [tx t, .int a, tx w] = .ok (.tup [.int (shareGo t w a), .bl (decide (shareGo t w a = w.length))]) 0 [none, none, none] := by
  have hps : d26.ps = [] := rfl
  have e : startR d26 [tx t, .int a, tx w] = [some (tx t, 0), some (.int a, 0), some (tx w, 0), none, none, none] := rfl
  have hseq : ∀ x y ρ, evS T [] (.seq x y) ρ = (evS T [] x ρ).seq (evS T [] y) := fun _ _ _ => rfl
  have hb1 : ∀ d, blt1 .len d = lenD d := fun _ => rfl
  have hlen := len_tx (l := w) (by omega)
  have hbody : d26.body = .seq (.asg (.nm 3) (.int 0)) (.seq (.for_ (.tp (.cons (.nm 4) (.cons (.nm 5) .nil))) (.enm (.var 2)) p26_0) (.seq (.ret (.tup (.cons (.var 3) (.cons (.cmp .Eq (.var 3) (.blt .len (.cons (.var 2) .nil))) .nil)))) .nil)) := rfl
  have h1 : evS T [] (.asg (.nm 3) (.int 0)) [some (tx t, 0), some (.int a, 0), some (tx w, 0), none, none, none] = .nx [some (tx t, 0), some (.int a, 0), some (tx w, 0), some (.int 0, 0), none, none] := by simp [ev, evS, mkR, consR, opd, varO, varF, pureF, retV, frzV, tstO, lift_some, bltO, rdOs, rdO, val1, val2, bool0, optI, seqItems, truD, ifsT, bind_ok', then_ok, seq_nx, seq_rt, seq_bk, seq_ct, asgT, setO, getO, ipD, mutOk, mutR, LIMn]
  have hit : (ev T [] (.enm (.var 2))).it [some (tx t, 0), some (.int a, 0), some (tx w, 0), some (.int 0, 0), none, none] = .ok (enumD ((0 : Nat) : Int) (w.map sgn1)) [some (tx t, 0), some (.int a, 0), some (tx w, 0), some (.int 0, 0), none, none] := by
    simp [ev, evS, mkR, consR, opd, varO, varF, pureF, retV, frzV, tstO, lift_some, bltO, rdOs, rdO, val1, val2, bool0, optI, seqItems, truD, ifsT, bind_ok', then_ok, seq_nx, seq_rt, seq_bk, seq_ct, asgT, setO, getO, ipD, mutOk, mutR, LIMn, tx, st_list]
  obtain ⟨x', y', h2⟩ := l26 T t w a hl w 0 0 none none
  have h3 : evS T [] (.for_ (.tp (.cons (.nm 4) (.cons (.nm 5) .nil))) (.enm (.var 2)) p26_0) [some (tx t, 0), some (.int a, 0), some (tx w, 0), some (.int 0, 0), none, none] = .nx [some (tx t, 0), some (.int a, 0), some (tx w, 0), some (.int (shareGo t w a), 0), x', y'] := by
    show ((ev T [] (.enm (.var 2))).it _).then _ = _
    rw [hit, then_ok, h2]
    simp
  have heq : cmpD .Eq (.int (shareGo t w a : Int)) (.int (w.length : Int)) = some (decide (shareGo t w a = w.length)) := by
    have : ((shareGo t w a : Int) = (w.length : Int)) = (shareGo t w a = w.length) := propext ⟨fun h => by omega, fun h => by omega⟩
    rw [int_eq]; simp only [this]
  rw [runDef_eq rfl, hps, e, hbody, hseq, h1, seq_nx, hseq, h3, seq_nx]
  simp [ev, evS, mkR, consR, opd, varO, varF, pureF, retV, frzV, tstO, lift_some, bltO, rdOs, rdO, val1, val2, bool0, optI, seqItems, truD, ifsT, bind_ok', then_ok, seq_nx, seq_rt, seq_bk, seq_ct, asgT, setO, getO, ipD, mutOk, mutR, LIMn, bltD, hb1, hlen, heq, finR, maskR]
  rfl
end EvL
end
section
set_option Elab.async false
set_option linter.all false
set_option maxRecDepth 100000
set_option maxHeartbeats 4000000
namespace EvL
open PySem PySem.Spec L2 Ev
/-- the statement `scan.take_word("...")` -/
theorem xw {n : Nat} (hn : 3 < n) (S : Str) (w : List Nat) (hS : D.str S = tx w) (t : List Nat) (a : Nat) (g : Bool) (r : Rho) (hl : t.length ≤ 100000) :
    evS (sysP.tb n) [0] (.ex (.omt 0 (Str.ofString "take_word") 3 0 (.cons (.str S) .nil))) (some (scD t a g, 1) :: r) = .nx (some (scG t (wordGo t w a g), 1) :: r) := by
  have hi3 := ins_ok4 t a g (Str.ofString "take_word") r (by decide +kernel)
  have hc3 : callR (sysP.tb n) 3 [.s 0, .v (.str S)] (some (scD t a g, 1) :: r) = .ok (.non, 0) ((some (scD t a g, 1) :: r).set 0 (some (scG t (wordGo t w a g), 1))) := by
    rw [hS]; exact call3 hn rfl (by omega)
  have hio3 : ((sysP.tb n).io 3).tail = [false] := by rw [io3]; rfl
  simp [ev, evS, mkR, consR, opd, varO, varF, pureF, retV, frzV, tstO, lift_some, bltO, rdOs, rdO, val1, val2, bool0, optI, seqItems, truD, ifsT, bind_ok', then_ok, seq_nx, seq_rt, seq_bk, seq_ct, asgT, setO, getO, ipD, mutOk, mutR, LIMn, hi3, hio3, hc3]
theorem xe {n : Nat} (c : CS) (S : CS) (ρ ρ1 : Rho) (h : evS (sysP.tb n) [0] c ρ = .nx ρ1) : evS (sysP.tb n) [0] (.seq c S) ρ = evS (sysP.tb n) [0] S ρ1 := by
  show (evS (sysP.tb n) [0] c ρ).seq (evS (sysP.tb n) [0] S) = _
  rw [h, seq_nx]
/-- take_close -/
theorem r17 (n : Nat) (hn : 3 < n) (t : List Nat) (a : Nat) (g : Bool) (hl : t.length ≤ 100000) : runDef (sysP.tb n) d17 [scD t a g] = .ok (.tup [.str (Str.ofString "end")]) 0 [some (scG t (wordGo t [101, 110, 100] a g), 1)] := by
  have hps : d17.ps = [0] := rfl
  have e : startR d17 [scD t a g] = [some (scD t a g, 1)] := rfl
  have h1 := xw hn (Str.ofString "end") [101, 110, 100] rfl t a g [] hl
  rw [runDef_eq rfl, hps, e, show d17.body = .seq _ _ from rfl, xe _ _ _ _ h1]
  generalize wordGo t [101, 110, 100] a g = w
  simp [ev, evS, mkR, consR, opd, varO, varF, pureF, retV, frzV, tstO, lift_some, bltO, rdOs, rdO, val1, val2, bool0, optI, seqItems, truD, ifsT, bind_ok', then_ok, seq_nx, seq_rt, seq_bk, seq_ct, asgT, setO, getO, ipD, mutOk, mutR, LIMn, finR, maskR]
  rfl
/-- take_fold -/
theorem r6 (n : Nat) (hn : 5 < n) (t : List Nat) (a : Nat) (g : Bool) (hl : t.length ≤ 100000) : runDef (sysP.tb n) d6 [scD t a g] = .ok (.tup [.str (Str.ofString "fold"), tx (nameGo t (wordGo t [102, 111, 108, 100, 32] a g).1 (wordGo t [102, 111, 108, 100, 32] a g).2).1]) 0 [some (scG t (nameGo t (wordGo t [102, 111, 108, 100, 32] a g).1 (wordGo t [102, 111, 108, 100, 32] a g).2).2, 1)] := by
  have hps : d6.ps = [0] := rfl
  have e : startR d6 [scD t a g] = [some (scD t a g, 1)] := rfl
  have h1 := xw (n := n) (by omega) (Str.ofString "fold ") [102, 111, 108, 100, 32] rfl t a g [] hl
  rw [runDef_eq rfl, hps, e, show d6.body = .seq _ _ from rfl, xe _ _ _ _ h1]
  generalize wordGo t [102, 111, 108, 100, 32] a g = w
  obtain ⟨a2, g2⟩ := w
  have hsg : scG t (a2, g2) = scD t a2 g2 := rfl
  have hi5 := ins_ok4 t a2 g2 (Str.ofString "take_name") [] (by decide +kernel)
  have hio5 : ((sysP.tb n).io 5).tail = [] := by rw [io5]; rfl
  have hc5 := call5 (n := n) hn (ρ := [some (scD t a2 g2, 1)]) (i := 0) (t := t) (a := a2) (g := g2) rfl hl
  rw [hsg]
  simp [ev, evS, mkR, consR, opd, varO, varF, pureF, retV, frzV, tstO, lift_some, bltO, rdOs, rdO, val1, val2, bool0, optI, seqItems, truD, ifsT, bind_ok', then_ok, seq_nx, seq_rt, seq_bk, seq_ct, asgT, setO, getO, ipD, mutOk, mutR, LIMn, hi5, hio5, hc5, finR, maskR]
  rfl
/-- take_states -/
theorem r9 (n : Nat) (hn : 8 < n) (t : List Nat) (a : Nat) (g : Bool) (hl : t.length ≤ 100000) : runDef (sysP.tb n) d9 [scD t a g] = .ok (.tup [.str (Str.ofString "states"), .int (cntGo t (wordGo t [115, 116, 97, 116, 101, 115, 32] a g).1 (wordGo t [115, 116, 97, 116, 101, 115, 32] a g).2 1 4).1]) 0 [some (scG t (cntGo t (wordGo t [115, 116, 97, 116, 101, 115, 32] a g).1 (wordGo t [115, 116, 97, 116, 101, 115, 32] a g).2 1 4).2, 1)] := by
  have hps : d9.ps = [0] := rfl
  have e : startR d9 [scD t a g] = [some (scD t a g, 1)] := rfl
  have h1 := xw (n := n) (by omega) (Str.ofString "states ") [115, 116, 97, 116, 101, 115, 32] rfl t a g [] hl
  rw [runDef_eq rfl, hps, e, show d9.body = .seq _ _ from rfl, xe _ _ _ _ h1]
  generalize wordGo t [115, 116, 97, 116, 101, 115, 32] a g = w
  obtain ⟨a2, g2⟩ := w
  have hsg : scG t (a2, g2) = scD t a2 g2 := rfl
  have hi5 := ins_ok4 t a2 g2 (Str.ofString "take_count") [] (by decide +kernel)
  have hio5 : ((sysP.tb n).io 8).tail = [false, false] := by rw [io8]; rfl
  have hc5 := call8 (n := n) hn (ρ := [some (scD t a2 g2, 1)]) (i := 0) (t := t) (a := a2) (g := g2) (lo := 1) (hi := 4) rfl hl
  have hK : (sysP.tb n).con (Str.ofString "MOST_STATES") = .int 4 := by rw [conP]; rfl
  rw [hsg]
  simp [ev, evS, mkR, consR, opd, varO, varF, pureF, retV, frzV, tstO, lift_some, bltO, rdOs, rdO, val1, val2, bool0, optI, seqItems, truD, ifsT, bind_ok', then_ok, seq_nx, seq_rt, seq_bk, seq_ct, asgT, setO, getO, ipD, mutOk, mutR, LIMn, hi5, hio5, hc5, hK, finR, maskR]
  rfl
/-- take_tells -/
theorem r12 (n : Nat) (hn : 10 < n) (t : List Nat) (a : Nat) (g : Bool) (hl : t.length ≤ 100000) : runDef (sysP.tb n) d12 [scD t a g] = .ok (.tup [.str (Str.ofString "tells"), .tup ((rowGo t 0 9 4 [] (wordGo t [116, 101, 108, 108, 115] a g).1 (wordGo t [116, 101, 108, 108, 115] a g).2).1.map D.int)]) 0 [some (scG t (rowGo t 0 9 4 [] (wordGo t [116, 101, 108, 108, 115] a g).1 (wordGo t [116, 101, 108, 108, 115] a g).2).2, 1)] := by
  have hps : d12.ps = [0] := rfl
  have e : startR d12 [scD t a g] = [some (scD t a g, 1)] := rfl
  have h1 := xw (n := n) (by omega) (Str.ofString "tells") [116, 101, 108, 108, 115] rfl t a g [] hl
  rw [runDef_eq rfl, hps, e, show d12.body = .seq _ _ from rfl, xe _ _ _ _ h1]
  generalize wordGo t [116, 101, 108, 108, 115] a g = w
  obtain ⟨a2, g2⟩ := w
  have hsg : scG t (a2, g2) = scD t a2 g2 := rfl
  have hi5 := ins_ok4 t a2 g2 (Str.ofString "take_row") [] (by decide +kernel)
  have hio5 : ((sysP.tb n).io 10).tail = [false, false, false] := by rw [io10]; rfl
  have hc5 : callR (sysP.tb n) 10 [.s 0, .v (.int 4), .v (.int 0), .v (.int 9)] _ = _ := call10 (n := n) hn (ρ := [some (scD t a2 g2, 1)]) (i := 0) (t := t) (a := a2) (m := 4) (g := g2) (lo := 0) (hi := 9) rfl hl (by omega)
  have hK : (sysP.tb n).con (Str.ofString "MOST_STATES") = .int 4 := by rw [conP]; rfl
  have hK2 : (sysP.tb n).con (Str.ofString "MOST_ANSWER") = .int 9 := by rw [conP]; rfl
  rw [hsg]
  simp [ev, evS, mkR, consR, opd, varO, varF, pureF, retV, frzV, tstO, lift_some, bltO, rdOs, rdO, val1, val2, bool0, optI, seqItems, truD, ifsT, bind_ok', then_ok, seq_nx, seq_rt, seq_bk, seq_ct, asgT, setO, getO, ipD, mutOk, mutR, LIMn, hi5, hio5, hc5, hK, hK2, finR, maskR]
  rfl
/-- take_event -/
theorem r11 (n : Nat) (hn : 10 < n) (t : List Nat) (a : Nat) (g : Bool) (hl : t.length ≤ 100000) : ∀ w q, wordGo t [101, 118, 101, 110, 116, 32] a g = w → nameGo t w.1 w.2 = q → runDef (sysP.tb n) d11 [scD t a g] = .ok (.tup [.str (Str.ofString "event"), tx q.1, .tup ((rowGo t 0 3 4 [] q.2.1 q.2.2).1.map D.int)]) 0 [some (scG t (rowGo t 0 3 4 [] q.2.1 q.2.2).2, 1)] := by
  rintro ⟨a2, g2⟩ ⟨nm, a3, g3⟩ hw hq
  have hps : d11.ps = [0] := rfl
  have e : startR d11 [scD t a g] = [some (scD t a g, 1), none] := rfl
  have h1 := xw (n := n) (by omega) (Str.ofString "event ") [101, 118, 101, 110, 116, 32] rfl t a g [none] hl
  rw [hw] at h1
  rw [runDef_eq rfl, hps, e, show d11.body = .seq _ _ from rfl, xe _ _ _ _ h1]
  have hsg : scG t (a2, g2) = scD t a2 g2 := rfl
  have hsg3 : scG t (a3, g3) = scD t a3 g3 := rfl
  have hi5 := ins_ok4 t a2 g2 (Str.ofString "take_name") [none] (by decide +kernel)
  have hio5 : ((sysP.tb n).io 5).tail = [] := by rw [io5]; rfl
  have hc5 := call5 (n := n) (by omega) (ρ := [some (scD t a2 g2, 1), none]) (i := 0) (t := t) (a := a2) (g := g2) rfl hl
  rw [show nameGo t a2 g2 = (nm, a3, g3) from hq] at hc5
  have hi6 := ins_ok4 t a3 g3 (Str.ofString "take_row") [some (tx nm, 0)] (by decide +kernel)
  have hio6 : ((sysP.tb n).io 10).tail = [false, false, false] := by rw [io10]; rfl
  have hc6 : callR (sysP.tb n) 10 [.s 0, .v (.int 4), .v (.int 0), .v (.int 3)] _ = _ := call10 (n := n) hn (ρ := [some (scD t a3 g3, 1), some (tx nm, 0)]) (i := 0) (t := t) (a := a3) (m := 4) (g := g3) (lo := 0) (hi := 3) rfl hl (by omega)
  have hK : (sysP.tb n).con (Str.ofString "MOST_STATES") = .int 4 := by rw [conP]; rfl
  simp only [hsg3] at hc5
  rw [hsg]
  simp [ev, evS, mkR, consR, opd, varO, varF, pureF, retV, frzV, tstO, lift_some, bltO, rdOs, rdO, val1, val2, bool0, optI, seqItems, truD, ifsT, bind_ok', then_ok, seq_nx, seq_rt, seq_bk, seq_ct, asgT, setO, getO, ipD, mutOk, mutR, LIMn, hi5, hio5, hc5, hi6, hio6, hc6, hK, binD, finR, maskR]
  rfl
/-- take_past -/
theorem r13 (n : Nat) (hn : 5 < n) (t : List Nat) (a : Nat) (g : Bool) (hl : t.length ≤ 100000) : ∀ w q v, wordGo t [112, 97, 115, 116, 32] a g = w → nameGo t w.1 w.2 = q → wordGo t [32, 111, 102, 32] q.2.1 q.2.2 = v → runDef (sysP.tb n) d13 [scD t a g] = .ok (.tup [.str (Str.ofString "past"), tx q.1, tx (nameGo t v.1 v.2).1]) 0 [some (scG t (nameGo t v.1 v.2).2, 1)] := by
  rintro ⟨a2, g2⟩ ⟨nm, a3, g3⟩ ⟨a4, g4⟩ hw hq hv
  have hps : d13.ps = [0] := rfl
  have e : startR d13 [scD t a g] = [some (scD t a g, 1), none] := rfl
  have h1 := xw (n := n) (by omega) (Str.ofString "past ") [112, 97, 115, 116, 32] rfl t a g [none] hl
  rw [hw] at h1
  have hsg : scG t (a2, g2) = scD t a2 g2 := rfl
  have hsg3 : scG t (a3, g3) = scD t a3 g3 := rfl
  have hsg4 : scG t (a4, g4) = scD t a4 g4 := rfl
  have hi5 := ins_ok4 t a2 g2 (Str.ofString "take_name") [none] (by decide +kernel)
  have hio5 : ((sysP.tb n).io 5).tail = [] := by rw [io5]; rfl
  have hc5 := call5 (n := n) (by omega) (ρ := [some (scD t a2 g2, 1), none]) (i := 0) (t := t) (a := a2) (g := g2) rfl hl
  rw [show nameGo t a2 g2 = (nm, a3, g3) from hq] at hc5
  simp only [hsg3] at hc5
  have h2 : evS (sysP.tb n) [0] (.asg (.nm 1) (.omt 0 (Str.ofString "take_name") 5 0 .nil)) [some (scD t a2 g2, 1), none] = .nx [some (scD t a3 g3, 1), some (tx nm, 0)] := by
    simp [ev, evS, mkR, consR, opd, varO, varF, pureF, retV, frzV, tstO, lift_some, bltO, rdOs, rdO, val1, val2, bool0, optI, seqItems, truD, ifsT, bind_ok', then_ok, seq_nx, seq_rt, seq_bk, seq_ct, asgT, setO, getO, ipD, mutOk, mutR, LIMn, hi5, hio5, hc5]
  have h3 := xw (n := n) (by omega) (Str.ofString " of ") [32, 111, 102, 32] rfl t a3 g3 [some (tx nm, 0)] hl
  rw [show wordGo t [32, 111, 102, 32] a3 g3 = (a4, g4) from hv, hsg4] at h3
  have hi6 := ins_ok4 t a4 g4 (Str.ofString "take_name") [some (tx nm, 0)] (by decide +kernel)
  have hc6 := call5 (n := n) (by omega) (ρ := [some (scD t a4 g4, 1), some (tx nm, 0)]) (i := 0) (t := t) (a := a4) (g := g4) rfl hl
  rw [hsg] at h1
  rw [runDef_eq rfl, hps, e, show d13.body = .seq _ (.seq _ (.seq _ _)) from rfl, xe _ _ _ _ h1, xe _ _ _ _ h2, xe _ _ _ _ h3]
  generalize nameGo t a4 g4 = q4 at hc6 ⊢
  simp [ev, evS, mkR, consR, opd, varO, varF, pureF, retV, frzV, tstO, lift_some, bltO, rdOs, rdO, val1, val2, bool0, optI, seqItems, truD, ifsT, bind_ok', then_ok, seq_nx, seq_rt, seq_bk, seq_ct, asgT, setO, getO, ipD, mutOk, mutR, LIMn, hi6, hio5, hc6, finR, maskR]
  rfl
/-- all_shapes -/
theorem r18 (T : Tb) : runDef T d18 [] = .ok (.tup [.fn 6, .fn 9, .fn 11, .fn 12, .fn 13, .fn 16, .fn 17]) 0 [] := by
  have hps : d18.ps = [] := rfl
  have e : startR d18 [] = [] := rfl
  rw [runDef_eq rfl, hps, e]
  simp [ev, evS, mkR, consR, opd, varO, varF, pureF, retV, frzV, tstO, lift_some, bltO, rdOs, rdO, val1, val2, bool0, optI, seqItems, truD, ifsT, bind_ok', then_ok, seq_nx, seq_rt, seq_bk, seq_ct, asgT, setO, getO, ipD, mutOk, mutR, LIMn, d18, finR, maskR]
/-- _law_reserved -/
theorem r27 (T : Tb) : runDef T d27 [] = .ok (.lst (resv.map tx)) 1 [] := by
  have hps : d27.ps = [] := rfl
  have e : startR d27 [] = [] := rfl
  rw [runDef_eq rfl, hps, e]
  simp [ev, evS, mkR, consR, opd, varO, varF, pureF, retV, frzV, tstO, lift_some, bltO, rdOs, rdO, val1, val2, bool0, optI, seqItems, truD, ifsT, bind_ok', then_ok, seq_nx, seq_rt, seq_bk, seq_ct, asgT, setO, getO, ipD, mutOk, mutR, LIMn, d27, finR, maskR]
  rfl
end EvL
end
section
set_option Elab.async false
set_option linter.all false
set_option maxRecDepth 100000
set_option maxHeartbeats 4000000
namespace EvL
open PySem PySem.Spec L2 Ev
theorem isInts_map : ∀ f : List Int, isInts (f.map D.int) = some f
  | [] => rfl
  | x :: f => by simp [isInts, isInts_map f]
theorem eqD_int (i j : Int) : eqD (.int i) (.int j) = decide (i = j) := by
  simp only [eqD, py, PyData.eqv]; rfl
theorem maxI_mem : ∀ (l : List Int) (x : Int), maxI l x = x ∨ maxI l x ∈ l
  | [], x => .inl rfl
  | y :: l, x => by
    simp only [maxI]
    rcases maxI_mem l (if y > x then y else x) with h | h
    · by_cases hy : y > x
      · rw [if_pos hy] at h ⊢; exact .inr (by rw [h]; exact List.mem_cons_self)
      · rw [if_neg hy] at h ⊢; exact .inl h
    · exact .inr (List.mem_cons_of_mem _ h)
/-- where the greatest stands first -/
def bestI : List Int → Nat
  | [] => 0
  | n :: ns => (n :: ns).findIdx (fun z => decide (z = maxI ns n))
theorem bestI_lt (n : Int) (ns : List Int) : bestI (n :: ns) < (n :: ns).length := by
  unfold bestI
  rw [List.findIdx_lt_length]
  rcases maxI_mem ns n with h | h
  · exact ⟨n, List.mem_cons_self, by simp [h]⟩
  · exact ⟨_, List.mem_cons_of_mem _ h, by simp⟩
theorem max_ints (n : Int) (ns : List Int) : maxD (.lst ((n :: ns).map D.int)) = some (.int (maxI ns n), 0) := by
  simp only [maxD, isInts_map]
theorem index_ints (n : Int) (ns : List Int) : indexD (.lst ((n :: ns).map D.int)) (.int (maxI ns n)) = some (.int (bestI (n :: ns)), 0) := by
  have h1 : okD (.lst ((n :: ns).map D.int)) = true := okInts (n :: ns)
  have h2 : okD (.int (maxI ns n)) = true := rfl
  have hlt := bestI_lt n ns
  unfold bestI at hlt ⊢
  simp only [indexD, h1, h2, Bool.and_self, if_true]
  have h3 : (((n :: ns).map D.int).findIdx? fun z => eqD z (.int (maxI ns n))) = some ((n :: ns).findIdx (fun z => decide (z = maxI ns n))) := by
    rw [List.findIdx?_map]
    have : ((fun z => eqD z (.int (maxI ns n))) ∘ D.int) = fun z => decide (z = maxI ns n) := by
      funext z; simp only [Function.comp, eqD_int]
    rw [this, List.findIdx?_eq_some_iff_findIdx_eq]
    exact ⟨hlt, rfl⟩
  rw [h3]; rfl
def shs (t : List Nat) (a : Nat) (ws : List (List Nat)) : List Int := ws.map fun w => (shareGo t w a : Int)
def oneAt (t : List Nat) (a : Nat) (ws : List (List Nat)) : List Nat := ws.getD (bestI (shs t a ws)) []
theorem lc15 (n : Nat) (hn : 14 < n) (t : List Nat) (a : Nat) (g : Bool) (ws : List (List Nat)) (x y : Slt) (hl : t.length ≤ 100000) (hw : ∀ w ∈ ws, w.length ≤ 100000) (hws : ws.length ≤ 100000) :
    (ev (sysP.tb n) [0] p15_1).f [some (scD t a g, 1), some (.tup (ws.map tx), 0), x, y, none] = .ok (.lst ((shs t a ws).map D.int), 1) [some (scD t a g, 1), some (.tup (ws.map tx), 0), x, y, none] := by
  have hio : ((sysP.tb n).io 14).tail = [false] := by rw [io14]; rfl
  have hi : ∀ r, insOk 0 (Str.ofString "shared_with") 0 (some (scD t a g, 1) :: r) = true := fun r => ins_ok4 t a g (Str.ofString "shared_with") r (by decide +kernel)
  obtain ⟨ρ', h1, h2⟩ := compLoop_map (i := 4) (ρ0 := [some (scD t a g, 1), some (.tup (ws.map tx), 0), x, y, none]) (bd := bindT [0] (.nm 4)) (t := ifsT .nil (ev (sysP.tb n) [0] .nil).t) (f := (ev (sysP.tb n) [0] p15_0).f) (g := fun d => match d with
      | .str s => .int (shareGo t s.cps.toList a)
      | d => d) (P := fun d => ∃ w, d = tx w ∧ w.length ≤ 100000) (by
    rintro d ⟨w, rfl, hwl⟩
    have hc := call14 (n := n) hn (ρ := [some (scD t a g, 1), some (.tup (ws.map tx), 0), x, y, some (tx w, 0)]) (i := 0) (w := w) rfl hl hwl
    refine ⟨[some (scD t a g, 1), some (.tup (ws.map tx), 0), x, y, some (tx w, 0)], 0, ?_, rfl, ?_, ?_⟩
    · simp [bindT]
    · simp [ev, evS, mkR, consR, opd, varO, varF, pureF, retV, frzV, tstO, lift_some, bltO, rdOs, rdO, val1, val2, bool0, optI, seqItems, truD, ifsT, bind_ok', then_ok, seq_nx, seq_rt, seq_bk, seq_ct, asgT, setO, getO, ipD, mutOk, mutR, LIMn, p15_0, hi, hio, hc]
      simp [tx, st]
    · simp) (ws.map tx) [some (scD t a g, 1), some (.tup (ws.map tx), 0), x, y, none] [] (by
      intro d hd
      obtain ⟨w, hm, rfl⟩ := List.mem_map.mp hd
      exact ⟨w, rfl, hw w hm⟩) (by
      have e : LIM = 16777216 := rfl
      simp only [List.length_nil, List.length_map]
      omega) rfl
  have hit : (ev (sysP.tb n) [0] (.var 1)).it [some (scD t a g, 1), some (.tup (ws.map tx), 0), x, y, none] = .ok (ws.map tx) [some (scD t a g, 1), some (.tup (ws.map tx), 0), x, y, none] := by
    simp [ev, evS, mkR, consR, opd, varO, varF, pureF, retV, frzV, tstO, lift_some, bltO, rdOs, rdO, val1, val2, bool0, optI, seqItems, truD, ifsT, bind_ok', then_ok, seq_nx, seq_rt, seq_bk, seq_ct, asgT, setO, getO, ipD, mutOk, mutR, LIMn]
  have hlc := lc_f (ps := [0]) (own := [4]) (t := .nm 4) hit h1
  have hb : backR [some (scD t a g, 1), some (.tup (ws.map tx), 0), x, y, none] ρ' [4] = [some (scD t a g, 1), some (.tup (ws.map tx), 0), x, y, none] := by
    simp [backR, h2]
  rw [hb] at hlc
  have hm : (ws.map tx).map (fun d => match d with
      | .str s => .int (shareGo t s.cps.toList a)
      | d => d) = (shs t a ws).map D.int := by
    simp [shs, tx, st, Function.comp_def]
  rw [List.nil_append, hm] at hlc
  exact hlc
theorem tup_ix (ws : List (List Nat)) (k : Nat) (h : k < ws.length) : ixD (.tup (ws.map tx)) (.int (k : Int)) = some (tx (ws.getD k []), 0) := by
  have h1 : ¬ ((k : Int) < 0) := by omega
  simp [ixD, atI, ixN, h, h1]
/-- take_one_of -/
theorem r15 (n : Nat) (hn : 14 < n) (t : List Nat) (a : Nat) (g : Bool) (v : List Nat) (vs : List (List Nat)) (hl : t.length ≤ 100000) (hw : ∀ w ∈ v :: vs, w.length ≤ 100000) (hws : (v :: vs).length ≤ 100000) :
    runDef (sysP.tb n) d15 [scD t a g, .tup ((v :: vs).map tx)] = .ok (tx (oneAt t a (v :: vs))) 0 [some (scG t (wordGo t (oneAt t a (v :: vs)) a g), 1), none] := by
  have hps : d15.ps = [0] := rfl
  have e : startR d15 [scD t a g, .tup ((v :: vs).map tx)] = [some (scD t a g, 1), some (.tup ((v :: vs).map tx), 0), none, none, none] := rfl
  have hlc := lc15 n hn t a g (v :: vs) none none hl hw hws
  have hix0 := tup_ix (v :: vs) (bestI (shs t a (v :: vs))) (by
    have := bestI_lt (shareGo t v a : Int) (vs.map fun w => (shareGo t w a : Int))
    simpa [shs] using this)
  have hix : ixD (.tup ((v :: vs).map tx)) (.int (bestI (shs t a (v :: vs)) : Int)) = some (tx (oneAt t a (v :: vs)), 0) := hix0
  have hmx : maxD (.lst ((shs t a (v :: vs)).map D.int)) = some (.int (maxI (vs.map fun w => (shareGo t w a : Int)) (shareGo t v a)), 0) := max_ints _ _
  have hidx : indexD (.lst ((shs t a (v :: vs)).map D.int)) (.int (maxI (vs.map fun w => (shareGo t w a : Int)) (shareGo t v a))) = some (.int (bestI (shs t a (v :: vs))), 0) := index_ints _ _
  generalize hW : (D.tup ((v :: vs).map tx)) = W at hlc hix e ⊢
  generalize maxI (vs.map fun w => (shareGo t w a : Int)) (shareGo t v a) = mx at hmx hidx
  generalize (shs t a (v :: vs)).map D.int = l at hlc hmx hidx
  generalize bestI (shs t a (v :: vs)) = bi at hidx hix
  generalize oneAt t a (v :: vs) = o at hix ⊢
  have hb1 : ∀ d, blt1 .max d = maxD d := fun _ => rfl
  have h1 : evS (sysP.tb n) [0] (.asg (.nm 2) p15_1) [some (scD t a g, 1), some (W, 0), none, none, none] = .nx [some (scD t a g, 1), some (W, 0), some (.lst l, 1), none, none] := by
    show ((ev (sysP.tb n) [0] p15_1).f _).then _ = _
    rw [hlc, then_ok]
    simp [ev, evS, mkR, consR, opd, varO, varF, pureF, retV, frzV, tstO, lift_some, bltO, rdOs, rdO, val1, val2, bool0, optI, seqItems, truD, ifsT, bind_ok', then_ok, seq_nx, seq_rt, seq_bk, seq_ct, asgT, setO, getO, ipD, mutOk, mutR, LIMn]
  have h2 : evS (sysP.tb n) [0] (.asg (.nm 3) (.mth .index (.var 2) (.cons (.blt .max (.cons (.var 2) .nil)) .nil))) [some (scD t a g, 1), some (W, 0), some (.lst l, 1), none, none] = .nx [some (scD t a g, 1), some (W, 0), some (.lst l, 1), some (.int bi, 0), none] := by
    simp [ev, evS, mkR, consR, opd, varO, varF, pureF, retV, frzV, tstO, lift_some, bltO, rdOs, rdO, val1, val2, bool0, optI, seqItems, truD, ifsT, bind_ok', then_ok, seq_nx, seq_rt, seq_bk, seq_ct, asgT, setO, getO, ipD, mutOk, mutR, LIMn, bltD, hb1, hmx, mthL, mthD, mthOk, hidx]
  have hi3 := ins_ok4 t a g (Str.ofString "take_word") [some (W, 0), some (.lst l, 1), some (.int bi, 0), none] (by decide +kernel)
  have hc3 := call3 (n := n) (by omega) (ρ := [some (scD t a g, 1), some (W, 0), some (.lst l, 1), some (.int bi, 0), none]) (i := 0) (t := t) (w := o) (a := a) (g := g) rfl (by omega)
  have hio3 : ((sysP.tb n).io 3).tail = [false] := by rw [io3]; rfl
  have h3 : evS (sysP.tb n) [0] (.ex (.omt 0 (Str.ofString "take_word") 3 0 (.cons (.ix (.var 1) (.var 3)) .nil))) [some (scD t a g, 1), some (W, 0), some (.lst l, 1), some (.int bi, 0), none] = .nx [some (scG t (wordGo t o a g), 1), some (W, 0), some (.lst l, 1), some (.int bi, 0), none] := by
    simp [ev, evS, mkR, consR, opd, varO, varF, pureF, retV, frzV, tstO, lift_some, bltO, rdOs, rdO, val1, val2, bool0, optI, seqItems, truD, ifsT, bind_ok', then_ok, seq_nx, seq_rt, seq_bk, seq_ct, asgT, setO, getO, ipD, mutOk, mutR, LIMn, hi3, hio3, hc3, hix]
  rw [runDef_eq rfl, hps, e, show d15.body = .seq _ (.seq _ (.seq _ _)) from rfl, xe _ _ _ _ h1, xe _ _ _ _ h2, xe _ _ _ _ h3]
  generalize wordGo t o a g = q
  simp [ev, evS, mkR, consR, opd, varO, varF, pureF, retV, frzV, tstO, lift_some, bltO, rdOs, rdO, val1, val2, bool0, optI, seqItems, truD, ifsT, bind_ok', then_ok, seq_nx, seq_rt, seq_bk, seq_ct, asgT, setO, getO, ipD, mutOk, mutR, LIMn, hix, finR, maskR]
  rfl
end EvL
end
section
set_option Elab.async false
set_option linter.all false
set_option maxRecDepth 100000
set_option maxHeartbeats 4000000
namespace EvL
open PySem PySem.Spec L2 Ev
theorem run15 {n : Nat} (h : 15 < n) : (sysP.tb n).run 15 = runDef (sysP.tb 15) d15 := runP h rfl
theorem io15 (n : Nat) : (sysP.tb n).io 15 = [true, false] := ioP (d := d15) rfl
theorem call15 {n : Nat} (hn : 15 < n) {ρ : Rho} {i : Nat} {t : List Nat} {a : Nat} {g : Bool} {v : List Nat} {vs : List (List Nat)} (hρ : ρ[i]? = some (some (scD t a g, 1))) (hl : t.length ≤ 100000) (hw : ∀ w ∈ v :: vs, w.length ≤ 100000) (hws : (v :: vs).length ≤ 100000) :
    callR (sysP.tb n) 15 [.s i, .v (.tup ((v :: vs).map tx))] ρ = .ok (tx (oneAt t a (v :: vs)), 0) (ρ.set i (some (scG t (wordGo t (oneAt t a (v :: vs)) a g), 1))) := by
  refine call_ok (io15 n) rfl ?_ ((congrFun (run15 hn) _).trans (r15 15 (by omega) t a g v vs hl hw hws)) rfl
  simp [rdOs, rdO, hρ]
def asks : List (List Nat) := ["answers", "moments", "counts"].map fun s => (Str.ofString s).cps.toList
theorem con_A : con (Str.ofString "ASKS") = .tup (asks.map tx) := rfl
/-- take_asks -/
theorem r16 (n : Nat) (hn : 15 < n) (t : List Nat) (a : Nat) (g : Bool) (hl : t.length ≤ 100000) : ∀ w, wordGo t [97, 115, 107, 115, 32] a g = w → runDef (sysP.tb n) d16 [scD t a g] = .ok (.tup [.str (Str.ofString "asks"), tx (oneAt t w.1 asks)]) 0 [some (scG t (wordGo t (oneAt t w.1 asks) w.1 w.2), 1)] := by
  rintro ⟨a2, g2⟩ hw
  have hps : d16.ps = [0] := rfl
  have e : startR d16 [scD t a g] = [some (scD t a g, 1)] := rfl
  have h1 := xw (n := n) (by omega) (Str.ofString "asks ") [97, 115, 107, 115, 32] rfl t a g [] hl
  rw [hw] at h1
  have hsg : scG t (a2, g2) = scD t a2 g2 := rfl
  rw [hsg] at h1
  have hi5 := ins_ok4 t a2 g2 (Str.ofString "take_one_of") [] (by decide +kernel)
  have hio5 : ((sysP.tb n).io 15).tail = [false] := by rw [io15]; rfl
  have hc5 : callR (sysP.tb n) 15 [.s 0, .v (.tup (asks.map tx))] _ = _ := call15 (n := n) hn (ρ := [some (scD t a2 g2, 1)]) (i := 0) (t := t) (a := a2) (g := g2) (v := asks.head!) (vs := asks.tail) rfl hl (by decide +kernel) (by decide +kernel)
  have hc6 : callR (sysP.tb n) 15 [.s 0, .v (.tup (asks.map tx))] [some (scD t a2 g2, 1)] = .ok (tx (oneAt t a2 asks), 0) ([some (scD t a2 g2, 1)].set 0 (some (scG t (wordGo t (oneAt t a2 asks) a2 g2), 1))) := hc5
  have hK : (sysP.tb n).con (Str.ofString "ASKS") = .tup (asks.map tx) := by rw [conP]; exact con_A
  rw [runDef_eq rfl, hps, e, show d16.body = .seq _ _ from rfl, xe _ _ _ _ h1]
  generalize asks.map tx = A at hc6 hK
  show _ = FR.ok (.tup [.str (Str.ofString "asks"), tx (oneAt t a2 asks)]) 0 [some (scG t (wordGo t (oneAt t a2 asks) a2 g2), 1)]
  generalize oneAt t a2 asks = o at hc6 ⊢
  generalize wordGo t o a2 g2 = q at hc6 ⊢
  simp [ev, evS, mkR, consR, opd, varO, varF, pureF, retV, frzV, tstO, lift_some, bltO, rdOs, rdO, val1, val2, bool0, optI, seqItems, truD, ifsT, bind_ok', then_ok, seq_nx, seq_rt, seq_bk, seq_ct, asgT, setO, getO, ipD, mutOk, mutR, LIMn, hi5, hio5, hK, hc6, finR, maskR]
  rfl
end EvL
end
section
set_option Elab.async false
set_option linter.all false
set_option maxRecDepth 100000
set_option maxHeartbeats 4000000
namespace EvL
open PySem PySem.Spec L2 Ev
/-- one thing a shape takes -/
inductive Act where
  | word (w : List Nat) | name | one (v : List Nat) (vs : List (List Nat)) | count (lo hi : Int) | row (m : Nat) (lo hi : Int) | fin
def Act.d : Act → D
  | .word w => .tup [.str (Str.ofString "word"), tx w]
  | .name => .tup [.str (Str.ofString "name")]
  | .one v vs => .tup [.str (Str.ofString "one"), .tup ((v :: vs).map tx)]
  | .count lo hi => .tup [.str (Str.ofString "count"), .int lo, .int hi]
  | .row m lo hi => .tup [.str (Str.ofString "row"), .int m, .int lo, .int hi]
  | .fin => .tup [.str (Str.ofString "end")]
def Act.ok : Act → Prop
  | .word _ => True
  | .name => True
  | .one v vs => (∀ w ∈ v :: vs, w.length ≤ 100000) ∧ (v :: vs).length ≤ 100000
  | .count _ _ => True
  | .row m _ _ => m ≤ 100
  | .fin => True
/-- what it gives, and where the scan stands then -/
def Act.go (t : List Nat) (a : Nat) (g : Bool) : Act → D × Nat × Bool
  | .word w => (.non, wordGo t w a g)
  | .name => (tx (nameGo t a g).1, (nameGo t a g).2)
  | .one v vs => (tx (oneAt t a (v :: vs)), wordGo t (oneAt t a (v :: vs)) a g)
  | .count lo hi => (.int (cntGo t a g lo hi).1, (cntGo t a g lo hi).2)
  | .row m lo hi => (.tup ((rowGo t lo hi m [] a g).1.map D.int), (rowGo t lo hi m [] a g).2)
  | .fin => (.non, a, g && decide (a = t.length))
theorem q_word_word : cmpD .Eq (.str (Str.ofString "word")) (.str (Str.ofString "word")) = some true := by decide +kernel
theorem q_word_name : cmpD .Eq (.str (Str.ofString "word")) (.str (Str.ofString "name")) = some false := by decide +kernel
theorem q_word_one : cmpD .Eq (.str (Str.ofString "word")) (.str (Str.ofString "one")) = some false := by decide +kernel
theorem q_word_count : cmpD .Eq (.str (Str.ofString "word")) (.str (Str.ofString "count")) = some false := by decide +kernel
theorem q_word_row : cmpD .Eq (.str (Str.ofString "word")) (.str (Str.ofString "row")) = some false := by decide +kernel
theorem q_name_word : cmpD .Eq (.str (Str.ofString "name")) (.str (Str.ofString "word")) = some false := by decide +kernel
theorem q_name_name : cmpD .Eq (.str (Str.ofString "name")) (.str (Str.ofString "name")) = some true := by decide +kernel
theorem q_name_one : cmpD .Eq (.str (Str.ofString "name")) (.str (Str.ofString "one")) = some false := by decide +kernel
theorem q_name_count : cmpD .Eq (.str (Str.ofString "name")) (.str (Str.ofString "count")) = some false := by decide +kernel
theorem q_name_row : cmpD .Eq (.str (Str.ofString "name")) (.str (Str.ofString "row")) = some false := by decide +kernel
theorem q_one_word : cmpD .Eq (.str (Str.ofString "one")) (.str (Str.ofString "word")) = some false := by decide +kernel
theorem q_one_name : cmpD .Eq (.str (Str.ofString "one")) (.str (Str.ofString "name")) = some false := by decide +kernel
theorem q_one_one : cmpD .Eq (.str (Str.ofString "one")) (.str (Str.ofString "one")) = some true := by decide +kernel
theorem q_one_count : cmpD .Eq (.str (Str.ofString "one")) (.str (Str.ofString "count")) = some false := by decide +kernel
theorem q_one_row : cmpD .Eq (.str (Str.ofString "one")) (.str (Str.ofString "row")) = some false := by decide +kernel
theorem q_count_word : cmpD .Eq (.str (Str.ofString "count")) (.str (Str.ofString "word")) = some false := by decide +kernel
theorem q_count_name : cmpD .Eq (.str (Str.ofString "count")) (.str (Str.ofString "name")) = some false := by decide +kernel
theorem q_count_one : cmpD .Eq (.str (Str.ofString "count")) (.str (Str.ofString "one")) = some false := by decide +kernel
theorem q_count_count : cmpD .Eq (.str (Str.ofString "count")) (.str (Str.ofString "count")) = some true := by decide +kernel
theorem q_count_row : cmpD .Eq (.str (Str.ofString "count")) (.str (Str.ofString "row")) = some false := by decide +kernel
theorem q_row_word : cmpD .Eq (.str (Str.ofString "row")) (.str (Str.ofString "word")) = some false := by decide +kernel
theorem q_row_name : cmpD .Eq (.str (Str.ofString "row")) (.str (Str.ofString "name")) = some false := by decide +kernel
theorem q_row_one : cmpD .Eq (.str (Str.ofString "row")) (.str (Str.ofString "one")) = some false := by decide +kernel
theorem q_row_count : cmpD .Eq (.str (Str.ofString "row")) (.str (Str.ofString "count")) = some false := by decide +kernel
theorem q_row_row : cmpD .Eq (.str (Str.ofString "row")) (.str (Str.ofString "row")) = some true := by decide +kernel
theorem q_end_word : cmpD .Eq (.str (Str.ofString "end")) (.str (Str.ofString "word")) = some false := by decide +kernel
theorem q_end_name : cmpD .Eq (.str (Str.ofString "end")) (.str (Str.ofString "name")) = some false := by decide +kernel
theorem q_end_one : cmpD .Eq (.str (Str.ofString "end")) (.str (Str.ofString "one")) = some false := by decide +kernel
theorem q_end_count : cmpD .Eq (.str (Str.ofString "end")) (.str (Str.ofString "count")) = some false := by decide +kernel
theorem q_end_row : cmpD .Eq (.str (Str.ofString "end")) (.str (Str.ofString "row")) = some false := by decide +kernel
/-- _law_done -/
theorem r25 (n : Nat) (hn : 24 < n) (t : List Nat) (a : Nat) (g : Bool) (x : Act) (hl : t.length ≤ 100000) (hx : x.ok) : runDef (sysP.tb n) d25 [scD t a g, x.d] = .ok (x.go t a g).1 0 [some (scG t (x.go t a g).2, 1), none] := by
  have hps : d25.ps = [0] := rfl
  have e : ∀ y, startR d25 [scD t a g, y] = [some (scD t a g, 1), some (y, 0)] := fun _ => rfl
  have hI : ∀ m r, (m ≠ Str.ofString "text" ∧ m ≠ Str.ofString "at" ∧ m ≠ Str.ofString "good") → insOk 0 m 0 (some (scD t a g, 1) :: r) = true := fun m r h => ins_ok4 t a g m r h
  cases x with
  | word w =>
    rw [runDef_eq rfl, hps, e]
    have hc := call3 (n := n) (by omega) (ρ := [some (scD t a g, 1), some (Act.d (Act.word w), 0)]) (i := 0) (t := t) (a := a) (g := g) (w := w) rfl (by omega)
    have hio : ((sysP.tb n).io 3).tail = [false] := by rw [io3]; rfl
    have hm := hI (Str.ofString "take_word") [some (Act.d (Act.word w), 0)] (by decide +kernel)
    simp only [Act.d] at hc hm ⊢
    simp only [Act.go]
    generalize wordGo t w a g = q at hc ⊢
    simp [ev, evS, mkR, consR, opd, varO, varF, pureF, retV, frzV, tstO, lift_some, bltO, rdOs, rdO, val1, val2, bool0, optI, seqItems, truD, ifsT, bind_ok', then_ok, seq_nx, seq_rt, seq_bk, seq_ct, asgT, setO, getO, ipD, mutOk, mutR, LIMn, d25, ixD, atI, ixN, q_word_word, q_word_name, q_word_one, q_word_count, q_word_row, hm, hio, hc, finR, maskR]
    try rfl
  | name =>
    rw [runDef_eq rfl, hps, e]
    have hc := call5 (n := n) (by omega) (ρ := [some (scD t a g, 1), some (Act.d (Act.name), 0)]) (i := 0) (t := t) (a := a) (g := g) rfl hl
    have hio : ((sysP.tb n).io 5).tail = [] := by rw [io5]; rfl
    have hm := hI (Str.ofString "take_name") [some (Act.d (Act.name), 0)] (by decide +kernel)
    simp only [Act.d] at hc hm ⊢
    simp only [Act.go]
    generalize nameGo t a g = q at hc ⊢
    simp [ev, evS, mkR, consR, opd, varO, varF, pureF, retV, frzV, tstO, lift_some, bltO, rdOs, rdO, val1, val2, bool0, optI, seqItems, truD, ifsT, bind_ok', then_ok, seq_nx, seq_rt, seq_bk, seq_ct, asgT, setO, getO, ipD, mutOk, mutR, LIMn, d25, ixD, atI, ixN, q_name_word, q_name_name, q_name_one, q_name_count, q_name_row, hm, hio, hc, finR, maskR]
    try rfl
  | one v vs =>
    rw [runDef_eq rfl, hps, e]
    have hc := call15 (n := n) (by omega) (ρ := [some (scD t a g, 1), some (Act.d (Act.one v vs), 0)]) (i := 0) (t := t) (a := a) (g := g) (v := v) (vs := vs) rfl hl hx.1 hx.2
    have hio : ((sysP.tb n).io 15).tail = [false] := by rw [io15]; rfl
    have hm := hI (Str.ofString "take_one_of") [some (Act.d (Act.one v vs), 0)] (by decide +kernel)
    simp only [Act.d] at hc hm ⊢
    simp only [Act.go]
    generalize D.tup ((v :: vs).map tx) = W at hc hm ⊢
    generalize oneAt t a (v :: vs) = o at hc ⊢
    generalize wordGo t o a g = q at hc ⊢
    simp [ev, evS, mkR, consR, opd, varO, varF, pureF, retV, frzV, tstO, lift_some, bltO, rdOs, rdO, val1, val2, bool0, optI, seqItems, truD, ifsT, bind_ok', then_ok, seq_nx, seq_rt, seq_bk, seq_ct, asgT, setO, getO, ipD, mutOk, mutR, LIMn, d25, ixD, atI, ixN, q_one_word, q_one_name, q_one_one, q_one_count, q_one_row, hm, hio, hc, finR, maskR]
    try rfl
  | count lo hi =>
    rw [runDef_eq rfl, hps, e]
    have hc := call8 (n := n) (by omega) (ρ := [some (scD t a g, 1), some (Act.d (Act.count lo hi), 0)]) (i := 0) (t := t) (a := a) (g := g) (lo := lo) (hi := hi) rfl hl
    have hio : ((sysP.tb n).io 8).tail = [false, false] := by rw [io8]; rfl
    have hm := hI (Str.ofString "take_count") [some (Act.d (Act.count lo hi), 0)] (by decide +kernel)
    simp only [Act.d] at hc hm ⊢
    simp only [Act.go]
    generalize cntGo t a g lo hi = q at hc ⊢
    simp [ev, evS, mkR, consR, opd, varO, varF, pureF, retV, frzV, tstO, lift_some, bltO, rdOs, rdO, val1, val2, bool0, optI, seqItems, truD, ifsT, bind_ok', then_ok, seq_nx, seq_rt, seq_bk, seq_ct, asgT, setO, getO, ipD, mutOk, mutR, LIMn, d25, ixD, atI, ixN, q_count_word, q_count_name, q_count_one, q_count_count, q_count_row, hm, hio, hc, finR, maskR]
    try rfl
  | row m lo hi =>
    rw [runDef_eq rfl, hps, e]
    have hc := call10 (n := n) (by omega) (ρ := [some (scD t a g, 1), some (Act.d (Act.row m lo hi), 0)]) (i := 0) (t := t) (a := a) (g := g) (m := m) (lo := lo) (hi := hi) rfl hl hx
    have hio : ((sysP.tb n).io 10).tail = [false, false, false] := by rw [io10]; rfl
    have hm := hI (Str.ofString "take_row") [some (Act.d (Act.row m lo hi), 0)] (by decide +kernel)
    simp only [Act.d] at hc hm ⊢
    simp only [Act.go]
    generalize rowGo t lo hi m [] a g = q at hc ⊢
    simp [ev, evS, mkR, consR, opd, varO, varF, pureF, retV, frzV, tstO, lift_some, bltO, rdOs, rdO, val1, val2, bool0, optI, seqItems, truD, ifsT, bind_ok', then_ok, seq_nx, seq_rt, seq_bk, seq_ct, asgT, setO, getO, ipD, mutOk, mutR, LIMn, d25, ixD, atI, ixN, q_row_word, q_row_name, q_row_one, q_row_count, q_row_row, hm, hio, hc, finR, maskR]
    try rfl
  | fin =>
    rw [runDef_eq rfl, hps, e]
    have hc := call24 (n := n) (by omega) (ρ := [some (scD t a g, 1), some (Act.fin.d, 0)]) (i := 0) (t := t) (a := a) (g := g) rfl hl
    have hio : ((sysP.tb n).io 24).tail = [] := by rw [io24]; rfl
    have hm := hI (Str.ofString "take_end") [some (Act.d (Act.fin), 0)] (by decide +kernel)
    simp only [Act.d] at hc hm ⊢
    simp only [Act.go]
    simp [ev, evS, mkR, consR, opd, varO, varF, pureF, retV, frzV, tstO, lift_some, bltO, rdOs, rdO, val1, val2, bool0, optI, seqItems, truD, ifsT, bind_ok', then_ok, seq_nx, seq_rt, seq_bk, seq_ct, asgT, setO, getO, ipD, mutOk, mutR, LIMn, d25, ixD, atI, ixN, q_end_word, q_end_name, q_end_one, q_end_count, q_end_row, hm, hio, hc, finR, maskR]
    try rfl
end EvL
end
section
set_option Elab.async false
set_option linter.all false
set_option maxRecDepth 100000
set_option maxHeartbeats 4000000
namespace EvL
open PySem PySem.Spec L2 Ev
theorem run25 {n : Nat} (h : 25 < n) : (sysP.tb n).run 25 = runDef (sysP.tb 25) d25 := runP h rfl
theorem io25 (n : Nat) : (sysP.tb n).io 25 = [true, false] := ioP (d := d25) rfl
theorem call25 {n : Nat} (hn : 25 < n) {ρ : Rho} {i : Nat} {t : List Nat} {a : Nat} {g : Bool} {x : Act} (hρ : ρ[i]? = some (some (scD t a g, 1))) (hl : t.length ≤ 100000) (hx : x.ok) : callR (sysP.tb n) 25 [.s i, .v x.d] ρ = .ok ((x.go t a g).1, 0) (ρ.set i (some (scG t (x.go t a g).2, 1))) := by
  refine call_ok (io25 n) rfl ?_ ((congrFun (run25 hn) _).trans (r25 25 (by omega) t a g x hl hx)) rfl
  simp [rdOs, rdO, hρ]
theorem run26 {n : Nat} (h : 26 < n) : (sysP.tb n).run 26 = runDef (sysP.tb 26) d26 := runP h rfl
theorem io26 (n : Nat) : (sysP.tb n).io 26 = [false, false, false] := ioP (d := d26) rfl
theorem run27 {n : Nat} (h : 27 < n) : (sysP.tb n).run 27 = runDef (sysP.tb 27) d27 := runP h rfl
theorem io27 (n : Nat) : (sysP.tb n).io 27 = [] := ioP (d := d27) rfl
end EvL
end
section
set_option Elab.async false
set_option linter.all false
set_option maxRecDepth 100000
set_option maxHeartbeats 4000000
namespace EvL
open PySem PySem.Spec L2 Ev
theorem sgnAt_len (t : List Nat) (a : Nat) : (sgnAt t a).length ≤ 1 := by unfold sgnAt; exact List.length_take_le _ _
/-- _law_count_over: what it gives -/
def cntOver (t : List Nat) (a : Nat) (lo hi : Int) : D :=
  if btw (sgnAt t a) lo hi = true then .tup [.int 1, .bl true, .int (((sgnAt t a).headD 0 : Int) - 48)] else .tup [.int 0, .bl false, .non]
theorem tx_nil : D.str (Str.ofString "") = tx [] := rfl
theorem tx_digs : D.str (Str.ofString "0123456789") = tx digs := rfl
theorem r30 (T : Tb) (t : List Nat) (a : Nat) (lo hi : Int) (hl : t.length ≤ 100000) : runDef T d30 [tx t, .int a, .int lo, .int hi] = .ok (cntOver t a lo hi) 0 [none, none, none, none] := by
  have hps : d30.ps = [] := rfl
  have e : startR d30 [tx t, .int a, .int lo, .int hi] = [some (tx t, 0), some (.int a, 0), some (.int lo, 0), some (.int hi, 0), none, none] := rfl
  have hsl := slc_mid (l := t) (by omega) a
  have hb2 : ∀ d, blt1 .int d = intD d := fun _ => rfl
  rw [runDef_eq rfl, hps, e]
  unfold cntOver
  have hlen := sgnAt_len t a
  generalize sgnAt t a = s at hsl hlen ⊢
  match s, hlen with
  | [], _ =>
    have hne : cmpD .NotEq (tx []) (.str (Str.ofString "")) = some false := by decide +kernel
    simp [ev, evS, mkR, consR, opd, varO, varF, pureF, retV, frzV, tstO, lift_some, bltO, rdOs, rdO, val1, val2, bool0, optI, seqItems, truD, ifsT, bind_ok', then_ok, seq_nx, seq_rt, seq_bk, seq_ct, asgT, setO, getO, ipD, mutOk, mutR, LIMn, d30, binD, hsl, hne, btw, finR, maskR]
    try rfl
  | [c], _ =>
    have hne : cmpD .NotEq (tx [c]) (.str (Str.ofString "")) = some true := by
      rw [tx_nil, tx_ne]; simp
    by_cases hc : c ∈ digs
    · have hi' : intD (tx [c]) = some (.int ((c : Int) - 48), 0) := by
        have k : (st [c]).length ≤ 640 := by rw [st_len, List.length_singleton]; omega
        simp only [tx, intD, dig_int c hc, if_pos k]
      by_cases h1 : lo ≤ (c : Int) - 48
      · by_cases h2 : (c : Int) - 48 ≤ hi
        · simp [ev, evS, mkR, consR, opd, varO, varF, pureF, retV, frzV, tstO, lift_some, bltO, rdOs, rdO, val1, val2, bool0, optI, seqItems, truD, ifsT, bind_ok', then_ok, seq_nx, seq_rt, seq_bk, seq_ct, asgT, setO, getO, ipD, mutOk, mutR, LIMn, d30, binD, hsl, hne, bltD, hb2, int_le, tx_digs, in_digs, hc, hi', h1, h2, finR, maskR, btw]
          try rfl
        · simp [ev, evS, mkR, consR, opd, varO, varF, pureF, retV, frzV, tstO, lift_some, bltO, rdOs, rdO, val1, val2, bool0, optI, seqItems, truD, ifsT, bind_ok', then_ok, seq_nx, seq_rt, seq_bk, seq_ct, asgT, setO, getO, ipD, mutOk, mutR, LIMn, d30, binD, hsl, hne, bltD, hb2, int_le, tx_digs, in_digs, hc, hi', h1, h2, finR, maskR, btw]
          try rfl
      · simp [ev, evS, mkR, consR, opd, varO, varF, pureF, retV, frzV, tstO, lift_some, bltO, rdOs, rdO, val1, val2, bool0, optI, seqItems, truD, ifsT, bind_ok', then_ok, seq_nx, seq_rt, seq_bk, seq_ct, asgT, setO, getO, ipD, mutOk, mutR, LIMn, d30, binD, hsl, hne, bltD, hb2, int_le, tx_digs, in_digs, hc, hi', h1, finR, maskR, btw]
        try rfl
    · simp [ev, evS, mkR, consR, opd, varO, varF, pureF, retV, frzV, tstO, lift_some, bltO, rdOs, rdO, val1, val2, bool0, optI, seqItems, truD, ifsT, bind_ok', then_ok, seq_nx, seq_rt, seq_bk, seq_ct, asgT, setO, getO, ipD, mutOk, mutR, LIMn, d30, binD, hsl, hne, tx_digs, in_digs, hc, finR, maskR, btw]
      try rfl
end EvL
end
section
set_option Elab.async false
set_option linter.all false
set_option maxRecDepth 100000
set_option maxHeartbeats 4000000
namespace EvL
open PySem PySem.Spec L2 Ev
/-- does the sign at a go on with a name that has k signs -/
def nmOk (t : List Nat) (a k : Nat) : Bool := match sgnAt t (a + k) with
  | [c] => if k = 0 then decide (c ∈ lets) else al c
  | _ => false
abbrev s28 (t : List Nat) (a : Nat) (o : Int) (x y : Slt) : Rho := [some (tx t, 0), some (.int a, 0), some (tx lets, 0), some (.int o, 0), x, none, y]
theorem t28 (T : Tb) (t : List Nat) (a k : Nat) (o : Int) (y : Slt) (hl : t.length ≤ 100000) : evS T [] p28_0 (s28 t a o (some (.int k, 0)) y) =
    if nmOk t a k = true then .nx (s28 t a (o + 1) (some (.int k, 0)) (some (tx (sgnAt t (a + k)), 0))) else .bk (s28 t a o (some (.int k, 0)) (some (tx (sgnAt t (a + k)), 0))) := by
  have hsl := slc_mid (l := t) (by omega) (a + k)
  have e : ((a + k : Nat) : Int) = (a : Int) + (k : Int) := by omega
  rw [e] at hsl
  have hcat : binD .Add (tx lets) (tx digs) = some (tx (lets ++ digs), 0) := by
    have k : (st lets).length + (st digs).length ≤ LIM := by rw [st_len, st_len, LIMn]; decide +kernel
    simp only [tx, binD, if_pos k, st_app]
  have hin : ∀ c, cmpD .NotIn (tx [c]) (tx (lets ++ digs)) = some (!al c) := fun c => by
    show some (!inStr (st [c]) (st (lets ++ digs))) = _
    rw [in_sign]; rfl
  have hin2 : ∀ c, cmpD .NotIn (tx [c]) (tx lets) = some (!decide (c ∈ lets)) := fun c => by
    show some (!inStr (st [c]) (st lets)) = _
    rw [in_sign]
  have hadd : ∀ i j : Int, binD .Add (.int i) (.int j) = some (.int (i + j), 0) := fun _ _ => rfl
  have hk : cmpD .Eq (.int (k : Int)) (.int 0) = some (decide (k = 0)) := by
    have : ((k : Int) = 0) = (k = 0) := propext ⟨fun h => by omega, fun h => by omega⟩
    rw [int_eq]; simp only [this]
  have hlen := sgnAt_len t (a + k)
  unfold nmOk
  generalize sgnAt t (a + k) = s at hsl hlen ⊢
  match s, hlen with
  | [], _ =>
    have hq : cmpD .Eq (tx []) (.str (Str.ofString "")) = some true := by decide +kernel
    simp [ev, evS, mkR, consR, opd, varO, varF, pureF, retV, frzV, tstO, lift_some, bltO, rdOs, rdO, val1, val2, bool0, optI, seqItems, truD, ifsT, bind_ok', then_ok, seq_nx, seq_rt, seq_bk, seq_ct, asgT, setO, getO, ipD, mutOk, mutR, LIMn, p28_0, s28, hadd, hsl, hq]
  | [c], _ =>
    have hq : cmpD .Eq (tx [c]) (.str (Str.ofString "")) = some false := by
      rw [tx_nil, tx_eq]; simp
    by_cases h0 : k = 0
    · have hsl0 : slcD (tx t) (some (a : Int)) (some ((a : Int) + 1)) = some (tx [c], 0) := by simpa [h0] using hsl
      have hk0 : cmpD .Eq (.int 0) (.int 0) = some true := by decide +kernel
      by_cases hc : c ∈ lets <;> simp [ev, evS, mkR, consR, opd, varO, varF, pureF, retV, frzV, tstO, lift_some, bltO, rdOs, rdO, val1, val2, bool0, optI, seqItems, truD, ifsT, bind_ok', then_ok, seq_nx, seq_rt, seq_bk, seq_ct, asgT, setO, getO, ipD, mutOk, mutR, LIMn, p28_0, s28, hadd, hsl0, hq, hk0, h0, hin2, hc]
    · cases hc : al c <;> simp [ev, evS, mkR, consR, opd, varO, varF, pureF, retV, frzV, tstO, lift_some, bltO, rdOs, rdO, val1, val2, bool0, optI, seqItems, truD, ifsT, bind_ok', then_ok, seq_nx, seq_rt, seq_bk, seq_ct, asgT, setO, getO, ipD, mutOk, mutR, LIMn, p28_0, s28, hadd, hsl, hq, hk, h0, tx_digs, hcat, hin, hc]
end EvL
end
section
set_option Elab.async false
set_option linter.all false
set_option maxRecDepth 100000
set_option maxHeartbeats 4000000
namespace EvL
open PySem PySem.Spec L2 Ev
/-- how many signs a name has from a + k on, at most m -/
def nmGo (t : List Nat) (a : Nat) : Nat → Nat → Nat
  | 0, _ => 0
  | m + 1, k => if nmOk t a k = true then nmGo t a m (k + 1) + 1 else 0
theorem l28 (T : Tb) (t : List Nat) (a : Nat) (hl : t.length ≤ 100000) : ∀ (m k : Nat) (o : Int) (x y : Slt), ∃ x' y', forLoop (bindT [] (.nm 4)) (evS T [] p28_0) ((List.range' k m).map fun i : Nat => D.int ((i : Nat) : Int)) (s28 t a o x y) = .nx (s28 t a (o + nmGo t a m k) x' y')
  | 0, k, o, x, y => ⟨x, y, by simp [forLoop, nmGo]⟩
  | m + 1, k, o, x, y => by
    have hbd : bindT [] (.nm 4) (.int (k : Int)) (s28 t a o x y) = some (s28 t a o (some (.int k, 0)) y) := by simp [bindT, s28]
    have hstep := t28 T t a k o y hl
    simp only [List.range'_succ, List.map_cons, forLoop, hbd, nmGo]
    by_cases h : nmOk t a k = true
    · simp only [if_pos h] at hstep ⊢
      simp only [hstep]
      obtain ⟨x', y', ih⟩ := l28 T t a hl m (k + 1) (o + 1) (some (.int k, 0)) (some (tx (sgnAt t (a + k)), 0))
      refine ⟨x', y', ?_⟩
      rw [ih]
      have e2 : o + 1 + (nmGo t a m (k + 1) : Int) = o + ((nmGo t a m (k + 1) + 1 : Nat) : Int) := by omega
      rw [e2]
    · simp only [if_neg h] at hstep ⊢
      simp only [hstep]
      exact ⟨some (.int k, 0), some (tx (sgnAt t (a + k)), 0), by simp⟩
end EvL
end
section
set_option Elab.async false
set_option linter.all false
set_option maxRecDepth 100000
set_option maxHeartbeats 4000000
namespace EvL
open PySem PySem.Spec L2 Ev
theorem call27 {n : Nat} (hn : 27 < n) (ρ : Rho) : callR (sysP.tb n) 27 [] ρ = .ok (.lst (resv.map tx), 1) ρ :=
  call_ok (io27 n) rfl rfl ((congrFun (run27 hn) _).trans (r27 _)) rfl
theorem call26 {n : Nat} (hn : 26 < n) {ρ : Rho} {t w : List Nat} {a : Nat} (hl : t.length ≤ 100000) (hw : w.length ≤ 100000) : callR (sysP.tb n) 26 [.v (tx t), .v (.int a), .v (tx w)] ρ = .ok (.tup [.int (shareGo t w a), .bl (decide (shareGo t w a = w.length))], 0) ρ :=
  call_ok (io26 n) rfl rfl ((congrFun (run26 hn) _).trans (r26 _ t w a hl hw)) rfl
/-! a name from a on -/
theorem sgnAt_nil {t : List Nat} {b : Nat} (h : t.drop b = []) : sgnAt t b = [] := by unfold sgnAt; rw [h]; rfl
theorem sgnAt_cons {t r : List Nat} {b c : Nat} (h : t.drop b = c :: r) : sgnAt t b = [c] := by unfold sgnAt; rw [h]; rfl
theorem drop_succ' {t r : List Nat} {b c : Nat} (h : t.drop b = c :: r) : t.drop (b + 1) = r := by
  rw [← List.tail_drop, h]; rfl
theorem nmGo_run (t : List Nat) (a : Nat) : ∀ (m k : Nat), 0 < k → nmGo t a m k = min (restRun t (a + k)).length m
  | 0, k, _ => by simp [nmGo]
  | m + 1, k, hk => by
    have ih := nmGo_run t a m (k + 1) (by omega)
    unfold nmGo nmOk
    have hk0 : ¬ k = 0 := by omega
    cases hd : t.drop (a + k) with
    | nil =>
      rw [sgnAt_nil hd]
      simp [restRun, hd]
    | cons c r =>
      rw [sgnAt_cons hd]
      have hr := drop_succ' hd
      simp only [if_neg hk0]
      have e : restRun t (a + (k + 1)) = r.takeWhile al := by
        unfold restRun; rw [show a + (k + 1) = a + k + 1 by omega, hr]
      have e2 : restRun t (a + k) = (c :: r).takeWhile al := by unfold restRun; rw [hd]
      rw [ih, e, e2, List.takeWhile_cons]
      cases hal : al c with
      | true => simp only [if_true, List.length_cons]; omega
      | false => simp
theorem lets_al : ∀ c ∈ lets, al c = true ∧ ¬ c ∈ digs := by decide +kernel
theorem al_cases {c : Nat} (h : al c = true) (hn : ¬ c ∈ lets) : c ∈ digs := by
  have : c ∈ lets ++ digs := by simpa [al] using h
  rcases List.mem_append.mp this with h | h
  · exact absurd h hn
  · exact h
def nmO (t : List Nat) (a : Nat) : Nat := nmGo t a 8 0
theorem nmO_eq (t : List Nat) (a : Nat) : nmO t a = if restRun t a = [] ∨ (restRun t a).head?.any (fun c => decide (c ∈ digs)) = true then 0 else min (restRun t a).length 8 := by
  have ih := nmGo_run t a 7 1 (by omega)
  unfold nmO nmGo nmOk
  simp only [Nat.add_zero, Nat.zero_add, if_true]
  cases hd : t.drop a with
  | nil =>
    rw [sgnAt_nil hd]
    simp [restRun, hd]
  | cons c r =>
    rw [sgnAt_cons hd]
    have hr := drop_succ' hd
    have e : restRun t (a + 1) = r.takeWhile al := by unfold restRun; rw [hr]
    have e2 : restRun t a = (c :: r).takeWhile al := by unfold restRun; rw [hd]
    rw [ih, e, e2, List.takeWhile_cons]
    by_cases hc : c ∈ lets
    · obtain ⟨h1, h2⟩ := lets_al c hc
      have h3 : ¬ (c :: r.takeWhile al = [] ∨ (c :: r.takeWhile al).head?.any (fun c => decide (c ∈ digs)) = true) := by simp [h2]
      simp only [h1, if_true, if_neg h3, decide_eq_true hc, List.length_cons]
      omega
    · simp only [decide_eq_false hc]
      cases hal : al c with
      | false => simp
      | true => simp [al_cases hal hc]
theorem take_nm (t : List Nat) (a : Nat) : (t.drop a).take (min (restRun t a).length 8) = (restRun t a).take 8 := by
  have h := take_tw al (t.drop a)
  have e : (t.drop a).takeWhile al = restRun t a := rfl
  rw [e] at h
  rw [Nat.min_comm, ← List.take_take, h]
/-- _law_name_over -/
def nmW (t : List Nat) (a : Nat) : List Nat := (t.drop a).take (nmO t a)
def nmOver (t : List Nat) (a : Nat) : D := .tup [.int (nmO t a), .bl (decide (0 < nmO t a) && !decide (nmW t a ∈ resv)), tx (nmW t a)]
theorem slc_for {l : List Nat} (h : l.length ≤ 1000000) (a k : Nat) : slcD (tx l) (some (a : Int)) (some ((a : Int) + (k : Int))) = some (tx ((l.drop a).take k), 0) := by
  have k1 : (st l).length ≤ LIM := by rw [st_len, LIMn]; omega
  simp only [tx, slcD, if_pos k1, st_list, cut_mid]
  rfl
theorem r28 (n : Nat) (hn : 27 < n) (t : List Nat) (a : Nat) (hl : t.length ≤ 100000) (hp : Pl t) : runDef (sysP.tb n) d28 [tx t, .int a] = .ok (nmOver t a) 0 [none, none] := by
  have hps : d28.ps = [] := rfl
  have e : startR d28 [tx t, .int a] = [some (tx t, 0), some (.int a, 0), none, none, none, none, none] := rfl
  have hseq : ∀ x y ρ, evS (sysP.tb n) [] (.seq x y) ρ = (evS (sysP.tb n) [] x ρ).seq (evS (sysP.tb n) [] y) := fun _ _ _ => rfl
  obtain ⟨B1, B3, B4, hbody, e1, e3, e4⟩ : ∃ B1 B3 B4, d28.body = .seq B1 (.seq (.for_ (.nm 4) (.rg1 (.int 8)) p28_0) (.seq B3 (.seq B4 .nil))) ∧ B1 = .asg (.tp (.cons (.nm 2) (.cons (.nm 3) .nil))) (.tup (.cons (.str (Str.ofString "abcdefghijklmnopqrstuvwxyz")) (.cons (.int 0) .nil))) ∧
    B3 = .asg (.nm 5) (.slc (.var 0) (.var 1) (.bin .Add (.var 1) (.var 3))) ∧ B4 = .ret (.tup (.cons (.var 3) (.cons (.and (.cmp .Gt (.var 3) (.int 0)) (.cmp .NotIn (.var 5) (.call 27 .nil))) (.cons (.var 5) .nil)))) := ⟨_, _, _, rfl, rfl, rfl, rfl⟩
  have h1 : evS (sysP.tb n) [] B1 [some (tx t, 0), some (.int a, 0), none, none, none, none, none] = .nx (s28 t a 0 none none) := by
    rw [e1]; rfl
  have hit : (ev (sysP.tb n) [] (.rg1 (.int 8))).it (s28 t a 0 none none) = .ok ((List.range' 0 8).map fun i : Nat => D.int ((i : Nat) : Int)) (s28 t a 0 none none) := by
    simp [ev, evS, mkR, consR, opd, varO, varF, pureF, retV, frzV, tstO, lift_some, bltO, rdOs, rdO, val1, val2, bool0, optI, seqItems, truD, ifsT, bind_ok', then_ok, seq_nx, seq_rt, seq_bk, seq_ct, asgT, setO, getO, ipD, mutOk, mutR, LIMn, s28, rangeD]; rfl
  obtain ⟨x', y', h2⟩ := l28 (sysP.tb n) t a hl 8 0 0 none none
  have h2' : evS (sysP.tb n) [] (.for_ (.nm 4) (.rg1 (.int 8)) p28_0) (s28 t a 0 none none) = .nx (s28 t a (nmO t a) x' y') := by
    show ((ev (sysP.tb n) [] (.rg1 (.int 8))).it _).then _ = _
    rw [hit, then_ok, h2, Int.zero_add]; rfl
  have hsl := slc_for (l := t) (by omega) a (nmO t a)
  have hW : (t.drop a).take (nmO t a) = nmW t a := rfl
  rw [hW] at hsl
  have hWp : Pl (nmW t a) := fun c hc => hp c (List.mem_of_mem_drop (List.mem_of_mem_take hc))
  have hnot : cmpD .NotIn (tx (nmW t a)) (.lst (resv.map tx)) = some (!decide (nmW t a ∈ resv)) := by
    show (inD _ _).map (!·) = _
    rw [in_lst hWp resv_pl]; rfl
  have hgt : cmpD .Gt (.int (nmO t a : Int)) (.int 0) = some (decide (0 < nmO t a)) := by
    rw [int_gt]; congr 1; simp
  have hadd : ∀ i j : Int, binD .Add (.int i) (.int j) = some (.int (i + j), 0) := fun _ _ => rfl
  have hcall := fun ρ => call27 (n := n) hn ρ
  rw [runDef_eq rfl, hps, e, hbody, hseq, h1, seq_nx, hseq, h2', seq_nx]
  unfold nmOver
  generalize nmO t a = o at *
  generalize nmW t a = w at *
  by_cases ho : 0 < o
  · simp [ev, evS, mkR, consR, opd, varO, varF, pureF, retV, frzV, tstO, lift_some, bltO, rdOs, rdO, val1, val2, bool0, optI, seqItems, truD, ifsT, bind_ok', then_ok, seq_nx, seq_rt, seq_bk, seq_ct, asgT, setO, getO, ipD, mutOk, mutR, LIMn, e3, e4, s28, hadd, hsl, hgt, ho, io27, hcall, hnot, finR, maskR]
    rfl
  · simp [ev, evS, mkR, consR, opd, varO, varF, pureF, retV, frzV, tstO, lift_some, bltO, rdOs, rdO, val1, val2, bool0, optI, seqItems, truD, ifsT, bind_ok', then_ok, seq_nx, seq_rt, seq_bk, seq_ct, asgT, setO, getO, ipD, mutOk, mutR, LIMn, e3, e4, s28, hadd, hsl, hgt, ho, finR, maskR]
    rfl
/-- the program's name and the law's -/
theorem name_law (t : List Nat) (a : Nat) : (nameGo t a true).2 = (a + nmO t a, decide (0 < nmO t a) && !decide (nmW t a ∈ resv)) ∧ ((nameGo t a true).2.2 = true → (nameGo t a true).1 = nmW t a) := by
  unfold nameGo nmW
  have e := nmO_eq t a
  by_cases h : restRun t a = [] ∨ (restRun t a).head?.any (fun c => decide (c ∈ digs)) = true
  · rw [if_pos h] at e
    rw [if_pos (.inr h), e]
    simp
  · rw [if_neg h] at e
    have h2 : ¬ (true = false ∨ restRun t a = [] ∨ (restRun t a).head?.any (fun c => decide (c ∈ digs)) = true) := by
      rintro (h' | h')
      · cases h'
      · exact h h'
    rw [if_neg h2, e, take_nm]
    have hne : restRun t a ≠ [] := fun z => h (.inl z)
    have hlt : 0 < min (restRun t a).length 8 := by
      have := List.length_pos_iff.mpr hne
      omega
    simp [hlt]
end EvL
end
section
set_option Elab.async false
set_option linter.all false
set_option maxRecDepth 100000
set_option maxHeartbeats 4000000
/-! repr and equality of one value with itself -/
namespace Ev
open PySem PySem.Spec L2
mutual
/-- a bound of a text of repr -/
def szD : D → Nat
  | .int _ => 1921
  | .str x => 10 * x.length + 2
  | .tup ds => szL ds + 3
  | .lst ds => szL ds + 3
  | .non => 5
  | .bl _ => 5
  | .dic _ => 5
  | .fn _ => 5
  | .ins _ _ => 5
  | .scr _ => 5
def szL : List D → Nat
  | [] => 0
  | d :: ds => szD d + 2 + szL ds
end
theorem listText_le : ∀ ts : List Str, (listText ts).length ≤ piled ts + 2
  | [] => by decide
  | t :: ts => by
    unfold listText
    have h : textFrom 0 "[" (t :: ts) = textFrom 1 (("[" : String) ++ ("" : String) ++ t) ts := rfl
    rw [h, strLen_append, textFrom_length_pos _ _ _ (by omega), strLen_append, strLen_append, piled_cons]
    have e1 : ((("[" : String) : Str)).length = 1 := rfl
    have e2 : ((("" : String) : Str)).length = 0 := rfl
    have e3 : ((("]" : String) : Str)).length = 1 := rfl
    rw [e1, e2, e3]
    omega
theorem tupleText_le (ts : List Str) : (tupleText ts).length ≤ piled ts + 3 := by
  unfold tupleText
  rw [strLen_append, strLen_append]
  have e1 : ((("(" : String) : Str)).length = 1 := rfl
  have e3 : (((if ts.length == 1 then ",)" else ")" : String) : Str)).length ≤ 2 := by split <;> decide
  have e4 : (Str.join ", " ts).length ≤ piled ts := by
    cases ts with
    | nil => decide
    | cons t ts => have := join_length_add (t :: ts) (by simp); omega
  rw [e1]
  omega
mutual
theorem shown_sz : ∀ (n : Nat) (d : D), okAt n d = true → (py d).showable = true → (py d).shown.length ≤ szD d
  | n, .non, _, _ => by simp only [py, PyData.shown, szD]; decide
  | n, .bl b, _, _ => by cases b <;> (simp only [py, PyData.shown, szD]; decide)
  | n, .int i, _, h => by
    simp only [py, PyData.showable, decide_eq_true_eq] at h
    simp only [py, PyData.shown, szD]
    exact PyProof.Rows.int_text_len_1921 h
  | n, .str x, h, _ => by
    have h : PyData.strOk x = true := by cases n <;> exact h
    simp only [py, PyData.shown, szD]
    refine StrLaws.reprText_len x fun c hc => ?_
    unfold PyData.strOk at h
    simp at h
    rw [Array.mem_toList_iff] at hc
    obtain ⟨i, hi, e⟩ := Array.mem_iff_getElem.mp hc
    have := h i hi
    rw [e] at this
    omega
  | 0, .tup ds, h, _ => by simp [okAt] at h
  | n + 1, .tup ds, h, h2 => by
    simp only [okAt] at h
    simp only [py, PyData.showable] at h2
    simp only [py, PyData.shown, szD]
    have := shownAll_sz n ds h h2
    have h3 := tupleText_le (PyData.shownAll (pys ds))
    omega
  | 0, .lst ds, h, _ => by simp [okAt] at h
  | n + 1, .lst ds, h, h2 => by
    simp only [okAt] at h
    simp only [py, PyData.showable] at h2
    simp only [py, PyData.shown, szD]
    have := shownAll_sz n ds h h2
    have h3 := listText_le (PyData.shownAll (pys ds))
    omega
  | n, .dic _, h, _ => by cases n <;> simp [okAt] at h
  | n, .fn _, h, _ => by cases n <;> simp [okAt] at h
  | n, .ins _ _, h, _ => by cases n <;> simp [okAt] at h
  | n, .scr _, h, _ => by cases n <;> simp [okAt] at h
theorem shownAll_sz : ∀ (n : Nat) (ds : List D), okAll n ds = true → PyData.showableAll (pys ds) = true → piled (PyData.shownAll (pys ds)) ≤ szL ds
  | n, [], _, _ => by simp only [pys, PyData.shownAll, szL]; exact Nat.le_refl _
  | n, d :: ds, h, h2 => by
    simp only [okAll, Bool.and_eq_true] at h
    simp only [pys, PyData.showableAll, Bool.and_eq_true] at h2
    have h3 := shown_sz n d h.1 h2.1
    have h4 := shownAll_sz n ds h.2 h2.2
    simp only [pys, PyData.shownAll, szL, piled_cons]
    omega
end
mutual
theorem eqv_self : ∀ (n : Nat) (d : D), okAt n d = true → PyData.eqv (py d) (py d) = true
  | n, .non, _ => by simp [py, PyData.eqv]
  | n, .bl b, _ => by cases b <;> simp [py, PyData.eqv]
  | n, .int i, _ => by simp [py, PyData.eqv]
  | n, .str x, _ => by simp [py, PyData.eqv]
  | 0, .tup ds, h => by simp [okAt] at h
  | n + 1, .tup ds, h => by
    simp only [okAt] at h
    simp only [py, PyData.eqv]
    exact eqvAll_self n ds h
  | 0, .lst ds, h => by simp [okAt] at h
  | n + 1, .lst ds, h => by
    simp only [okAt] at h
    simp only [py, PyData.eqv]
    exact eqvAll_self n ds h
  | n, .dic _, h => by cases n <;> simp [okAt] at h
  | n, .fn _, h => by cases n <;> simp [okAt] at h
  | n, .ins _ _, h => by cases n <;> simp [okAt] at h
  | n, .scr _, h => by cases n <;> simp [okAt] at h
theorem eqvAll_self : ∀ (n : Nat) (ds : List D), okAll n ds = true → PyData.eqvAll (pys ds) (pys ds) = true
  | n, [], _ => by simp [pys, PyData.eqvAll]
  | n, d :: ds, h => by
    simp only [okAll, Bool.and_eq_true] at h
    simp only [pys, PyData.eqvAll, Bool.and_eq_true]
    exact ⟨eqv_self n d h.1, eqvAll_self n ds h.2⟩
end
theorem eqD_self {d : D} (h : okD d = true) : eqD d d = true := eqv_self 60 d h
theorem eqE_self {d : D} (h : okD d = true) : eqE d d = some true := by
  unfold eqE
  split
  · simp
  · rw [h, eqD_self h]; rfl
theorem reprD_ok {d : D} (h : okD d = true) (h2 : (py d).showable = true) (h3 : szD d ≤ LIM) : reprD d = some (.str (py d).shown, 0) := by
  unfold reprD
  have := shown_sz 60 d h h2
  rw [h, h2, decide_eq_true (Nat.le_trans this h3)]
  rfl
end Ev
end
section
set_option Elab.async false
set_option linter.all false
set_option maxRecDepth 100000
set_option maxHeartbeats 4000000
set_option autoImplicit false
/-! one equation for each form and field -/
namespace Ev
open PySem PySem.Spec L2
section
variable {T : Tb} {ps : List Nat} {ρ : Rho} {i j k : Nat} {b : Bool} {z : Int} {x : Str} {op : Operator} {op2 o1 o2 : CmpOp} {a c t as i2 lo hi it ifs e : CE} {m : Mth} {mu : Mut} {bt : Blt} {ty : Ty} {own : List Nat} {ct : CT} {bs : List Bool}
@[simp] theorem f_var : (ev T ps (.var i)).f ρ = varF i ρ := rfl
@[simp] theorem i_var : (ev T ps (.var i)).it ρ = ((ev T ps (.var i)).f ρ).bind fun p ρ1 => lift (seqItems p.1) ρ1 := rfl
@[simp] theorem o_var : (ev T ps (.var i)).o ρ = varO i ρ := rfl
@[simp] theorem t_var : (ev T ps (.var i)).t ρ = ((ev T ps (.var i)).o ρ).bind tstO := rfl
@[simp] theorem s_var : (ev T ps (.var i)).sl ρ = ((ev T ps (.var i)).f ρ).bind fun p ρ1 => lift (optI p.1) ρ1 := rfl
@[simp] theorem f_non : (ev T ps .non).f ρ = .ok (.non, 0) ρ := rfl
@[simp] theorem i_non : (ev T ps .non).it ρ = ((ev T ps .non).f ρ).bind fun p ρ1 => lift (seqItems p.1) ρ1 := rfl
@[simp] theorem o_non : (ev T ps .non).o ρ = frzV ((ev T ps .non).f ρ) := rfl
@[simp] theorem t_non : (ev T ps .non).t ρ = ((ev T ps .non).o ρ).bind tstO := rfl
@[simp] theorem s_non : (ev T ps .non).sl ρ = ((ev T ps .non).f ρ).bind fun p ρ1 => lift (optI p.1) ρ1 := rfl
@[simp] theorem f_bl : (ev T ps (.bl b)).f ρ = .ok (.bl b, 0) ρ := rfl
@[simp] theorem i_bl : (ev T ps (.bl b)).it ρ = ((ev T ps (.bl b)).f ρ).bind fun p ρ1 => lift (seqItems p.1) ρ1 := rfl
@[simp] theorem o_bl : (ev T ps (.bl b)).o ρ = frzV ((ev T ps (.bl b)).f ρ) := rfl
@[simp] theorem t_bl : (ev T ps (.bl b)).t ρ = ((ev T ps (.bl b)).o ρ).bind tstO := rfl
@[simp] theorem s_bl : (ev T ps (.bl b)).sl ρ = ((ev T ps (.bl b)).f ρ).bind fun p ρ1 => lift (optI p.1) ρ1 := rfl
@[simp] theorem f_int : (ev T ps (.int z)).f ρ = .ok (.int z, 0) ρ := rfl
@[simp] theorem i_int : (ev T ps (.int z)).it ρ = ((ev T ps (.int z)).f ρ).bind fun p ρ1 => lift (seqItems p.1) ρ1 := rfl
@[simp] theorem o_int : (ev T ps (.int z)).o ρ = frzV ((ev T ps (.int z)).f ρ) := rfl
@[simp] theorem t_int : (ev T ps (.int z)).t ρ = ((ev T ps (.int z)).o ρ).bind tstO := rfl
@[simp] theorem s_int : (ev T ps (.int z)).sl ρ = ((ev T ps (.int z)).f ρ).bind fun p ρ1 => lift (optI p.1) ρ1 := rfl
@[simp] theorem f_str : (ev T ps (.str x)).f ρ = .ok (.str x, 0) ρ := rfl
@[simp] theorem i_str : (ev T ps (.str x)).it ρ = ((ev T ps (.str x)).f ρ).bind fun p ρ1 => lift (seqItems p.1) ρ1 := rfl
@[simp] theorem o_str : (ev T ps (.str x)).o ρ = frzV ((ev T ps (.str x)).f ρ) := rfl
@[simp] theorem t_str : (ev T ps (.str x)).t ρ = ((ev T ps (.str x)).o ρ).bind tstO := rfl
@[simp] theorem s_str : (ev T ps (.str x)).sl ρ = ((ev T ps (.str x)).f ρ).bind fun p ρ1 => lift (optI p.1) ρ1 := rfl
@[simp] theorem f_con : (ev T ps (.con x)).f ρ = .ok (T.con x, 0) ρ := rfl
@[simp] theorem i_con : (ev T ps (.con x)).it ρ = ((ev T ps (.con x)).f ρ).bind fun p ρ1 => lift (seqItems p.1) ρ1 := rfl
@[simp] theorem o_con : (ev T ps (.con x)).o ρ = frzV ((ev T ps (.con x)).f ρ) := rfl
@[simp] theorem t_con : (ev T ps (.con x)).t ρ = ((ev T ps (.con x)).o ρ).bind tstO := rfl
@[simp] theorem s_con : (ev T ps (.con x)).sl ρ = ((ev T ps (.con x)).f ρ).bind fun p ρ1 => lift (optI p.1) ρ1 := rfl
@[simp] theorem f_fnv : (ev T ps (.fnv j)).f ρ = .ok (.fn j, 0) ρ := rfl
@[simp] theorem i_fnv : (ev T ps (.fnv j)).it ρ = ((ev T ps (.fnv j)).f ρ).bind fun p ρ1 => lift (seqItems p.1) ρ1 := rfl
@[simp] theorem o_fnv : (ev T ps (.fnv j)).o ρ = frzV ((ev T ps (.fnv j)).f ρ) := rfl
@[simp] theorem t_fnv : (ev T ps (.fnv j)).t ρ = ((ev T ps (.fnv j)).o ρ).bind tstO := rfl
@[simp] theorem s_fnv : (ev T ps (.fnv j)).sl ρ = ((ev T ps (.fnv j)).f ρ).bind fun p ρ1 => lift (optI p.1) ρ1 := rfl
@[simp] theorem f_bin {b : CE} : (ev T ps (.bin op a b)).f ρ = ((ev T ps a).o ρ).bind fun x ρ1 => ((ev T ps b).o ρ1).bind fun y ρ2 => bltO (val2 (binD op)) [x, y] ρ2 := rfl
@[simp] theorem i_bin {b : CE} : (ev T ps (.bin op a b)).it ρ = ((ev T ps (.bin op a b)).f ρ).bind fun p ρ1 => lift (seqItems p.1) ρ1 := rfl
@[simp] theorem o_bin {b : CE} : (ev T ps (.bin op a b)).o ρ = frzV ((ev T ps (.bin op a b)).f ρ) := rfl
@[simp] theorem t_bin {b : CE} : (ev T ps (.bin op a b)).t ρ = ((ev T ps (.bin op a b)).o ρ).bind tstO := rfl
@[simp] theorem s_bin {b : CE} : (ev T ps (.bin op a b)).sl ρ = ((ev T ps (.bin op a b)).f ρ).bind fun p ρ1 => lift (optI p.1) ρ1 := rfl
@[simp] theorem f_neg : (ev T ps (.neg a)).f ρ = ((ev T ps a).o ρ).bind fun x ρ1 => bltO (val1 negD) [x] ρ1 := rfl
@[simp] theorem i_neg : (ev T ps (.neg a)).it ρ = ((ev T ps (.neg a)).f ρ).bind fun p ρ1 => lift (seqItems p.1) ρ1 := rfl
@[simp] theorem o_neg : (ev T ps (.neg a)).o ρ = frzV ((ev T ps (.neg a)).f ρ) := rfl
@[simp] theorem t_neg : (ev T ps (.neg a)).t ρ = ((ev T ps (.neg a)).o ρ).bind tstO := rfl
@[simp] theorem s_neg : (ev T ps (.neg a)).sl ρ = ((ev T ps (.neg a)).f ρ).bind fun p ρ1 => lift (optI p.1) ρ1 := rfl
@[simp] theorem f_not : (ev T ps (.not a)).f ρ = ((ev T ps a).f ρ).bind fun x ρ1 => match x.1 with
      | .bl c => .ok (.bl (!c), 0) ρ1
      | _ => .bad := rfl
@[simp] theorem i_not : (ev T ps (.not a)).it ρ = ((ev T ps (.not a)).f ρ).bind fun p ρ1 => lift (seqItems p.1) ρ1 := rfl
@[simp] theorem o_not : (ev T ps (.not a)).o ρ = frzV ((ev T ps (.not a)).f ρ) := rfl
@[simp] theorem t_not : (ev T ps (.not a)).t ρ = ((ev T ps a).t ρ).bind fun c ρ1 => .ok (!c) ρ1 := rfl
@[simp] theorem s_not : (ev T ps (.not a)).sl ρ = ((ev T ps (.not a)).f ρ).bind fun p ρ1 => lift (optI p.1) ρ1 := rfl
@[simp] theorem f_and {b : CE} : (ev T ps (.and a b)).f ρ = ((ev T ps a).f ρ).bind fun x ρ1 => match x.1 with
      | .bl true => (ev T ps b).f ρ1
      | .bl false => .ok (.bl false, 0) ρ1
      | _ => .bad := rfl
@[simp] theorem i_and {b : CE} : (ev T ps (.and a b)).it ρ = ((ev T ps (.and a b)).f ρ).bind fun p ρ1 => lift (seqItems p.1) ρ1 := rfl
@[simp] theorem o_and {b : CE} : (ev T ps (.and a b)).o ρ = frzV ((ev T ps (.and a b)).f ρ) := rfl
@[simp] theorem t_and {b : CE} : (ev T ps (.and a b)).t ρ = ((ev T ps a).t ρ).bind fun c ρ1 => if c then (ev T ps b).t ρ1 else .ok false ρ1 := rfl
@[simp] theorem s_and {b : CE} : (ev T ps (.and a b)).sl ρ = ((ev T ps (.and a b)).f ρ).bind fun p ρ1 => lift (optI p.1) ρ1 := rfl
@[simp] theorem f_or {b : CE} : (ev T ps (.or a b)).f ρ = ((ev T ps a).f ρ).bind fun x ρ1 => match x.1 with
      | .bl false => (ev T ps b).f ρ1
      | .bl true => .ok (.bl true, 0) ρ1
      | _ => .bad := rfl
@[simp] theorem i_or {b : CE} : (ev T ps (.or a b)).it ρ = ((ev T ps (.or a b)).f ρ).bind fun p ρ1 => lift (seqItems p.1) ρ1 := rfl
@[simp] theorem o_or {b : CE} : (ev T ps (.or a b)).o ρ = frzV ((ev T ps (.or a b)).f ρ) := rfl
@[simp] theorem t_or {b : CE} : (ev T ps (.or a b)).t ρ = ((ev T ps a).t ρ).bind fun c ρ1 => if c then .ok true ρ1 else (ev T ps b).t ρ1 := rfl
@[simp] theorem s_or {b : CE} : (ev T ps (.or a b)).sl ρ = ((ev T ps (.or a b)).f ρ).bind fun p ρ1 => lift (optI p.1) ρ1 := rfl
@[simp] theorem f_cmp {b : CE} : (ev T ps (.cmp op2 a b)).f ρ = ((ev T ps a).o ρ).bind fun x ρ1 => ((ev T ps b).o ρ1).bind fun y ρ2 => bltO (val2 fun p q => bool0 (cmpD op2 p q)) [x, y] ρ2 := rfl
@[simp] theorem i_cmp {b : CE} : (ev T ps (.cmp op2 a b)).it ρ = ((ev T ps (.cmp op2 a b)).f ρ).bind fun p ρ1 => lift (seqItems p.1) ρ1 := rfl
@[simp] theorem o_cmp {b : CE} : (ev T ps (.cmp op2 a b)).o ρ = frzV ((ev T ps (.cmp op2 a b)).f ρ) := rfl
@[simp] theorem t_cmp {b : CE} : (ev T ps (.cmp op2 a b)).t ρ = ((ev T ps (.cmp op2 a b)).o ρ).bind tstO := rfl
@[simp] theorem s_cmp {b : CE} : (ev T ps (.cmp op2 a b)).sl ρ = ((ev T ps (.cmp op2 a b)).f ρ).bind fun p ρ1 => lift (optI p.1) ρ1 := rfl
@[simp] theorem f_chn {b : CE} : (ev T ps (.chn o1 o2 a b c)).f ρ = ((ev T ps a).o ρ).bind fun x ρ1 => (frzV ((ev T ps b).f ρ1)).bind fun y ρ2 => (bltO (val2 fun p q => bool0 (cmpD o1 p q)) [x, y] ρ2).bind fun z ρ3 => match z.1 with
      | .bl true => ((ev T ps c).o ρ3).bind fun w ρ4 => bltO (val2 fun p q => bool0 (cmpD o2 p q)) [y, w] ρ4
      | .bl false => .ok (.bl false, 0) ρ3
      | _ => .bad := rfl
@[simp] theorem i_chn {b : CE} : (ev T ps (.chn o1 o2 a b c)).it ρ = ((ev T ps (.chn o1 o2 a b c)).f ρ).bind fun p ρ1 => lift (seqItems p.1) ρ1 := rfl
@[simp] theorem o_chn {b : CE} : (ev T ps (.chn o1 o2 a b c)).o ρ = frzV ((ev T ps (.chn o1 o2 a b c)).f ρ) := rfl
@[simp] theorem t_chn {b : CE} : (ev T ps (.chn o1 o2 a b c)).t ρ = ((ev T ps (.chn o1 o2 a b c)).o ρ).bind tstO := rfl
@[simp] theorem s_chn {b : CE} : (ev T ps (.chn o1 o2 a b c)).sl ρ = ((ev T ps (.chn o1 o2 a b c)).f ρ).bind fun p ρ1 => lift (optI p.1) ρ1 := rfl
@[simp] theorem f_ife {b : CE} : (ev T ps (.ife t a b)).f ρ = ((ev T ps t).t ρ).bind fun c ρ1 => if c then (ev T ps a).f ρ1 else (ev T ps b).f ρ1 := rfl
@[simp] theorem i_ife {b : CE} : (ev T ps (.ife t a b)).it ρ = ((ev T ps (.ife t a b)).f ρ).bind fun p ρ1 => lift (seqItems p.1) ρ1 := rfl
@[simp] theorem o_ife {b : CE} : (ev T ps (.ife t a b)).o ρ = frzV ((ev T ps (.ife t a b)).f ρ) := rfl
@[simp] theorem s_ife {b : CE} : (ev T ps (.ife t a b)).sl ρ = ((ev T ps (.ife t a b)).f ρ).bind fun p ρ1 => lift (optI p.1) ρ1 := rfl
@[simp] theorem f_tup : (ev T ps (.tup as)).f ρ = ((ev T ps as).al ρ).bind fun ds ρ1 => if ds.length ≤ LIM then .ok (.tup (ds.map (·.1)), 0) ρ1 else .bad := rfl
@[simp] theorem i_tup : (ev T ps (.tup as)).it ρ = ((ev T ps (.tup as)).f ρ).bind fun p ρ1 => lift (seqItems p.1) ρ1 := rfl
@[simp] theorem o_tup : (ev T ps (.tup as)).o ρ = frzV ((ev T ps (.tup as)).f ρ) := rfl
@[simp] theorem t_tup : (ev T ps (.tup as)).t ρ = ((ev T ps (.tup as)).o ρ).bind tstO := rfl
@[simp] theorem s_tup : (ev T ps (.tup as)).sl ρ = ((ev T ps (.tup as)).f ρ).bind fun p ρ1 => lift (optI p.1) ρ1 := rfl
@[simp] theorem f_lst : (ev T ps (.lst as)).f ρ = ((ev T ps as).al ρ).bind fun ds ρ1 => if ds.length ≤ LIM then .ok (.lst (ds.map (·.1)), 1) ρ1 else .bad := rfl
@[simp] theorem i_lst : (ev T ps (.lst as)).it ρ = ((ev T ps (.lst as)).f ρ).bind fun p ρ1 => lift (seqItems p.1) ρ1 := rfl
@[simp] theorem o_lst : (ev T ps (.lst as)).o ρ = frzV ((ev T ps (.lst as)).f ρ) := rfl
@[simp] theorem t_lst : (ev T ps (.lst as)).t ρ = ((ev T ps (.lst as)).o ρ).bind tstO := rfl
@[simp] theorem s_lst : (ev T ps (.lst as)).sl ρ = ((ev T ps (.lst as)).f ρ).bind fun p ρ1 => lift (optI p.1) ρ1 := rfl
@[simp] theorem f_ix : (ev T ps (.ix a i2)).f ρ = ((ev T ps a).o ρ).bind fun x ρ1 => ((ev T ps i2).o ρ1).bind fun y ρ2 => bltO (val2 ixD) [x, y] ρ2 := rfl
@[simp] theorem i_ix : (ev T ps (.ix a i2)).it ρ = ((ev T ps (.ix a i2)).f ρ).bind fun p ρ1 => lift (seqItems p.1) ρ1 := rfl
@[simp] theorem o_ix : (ev T ps (.ix a i2)).o ρ = frzV ((ev T ps (.ix a i2)).f ρ) := rfl
@[simp] theorem t_ix : (ev T ps (.ix a i2)).t ρ = ((ev T ps (.ix a i2)).o ρ).bind tstO := rfl
@[simp] theorem s_ix : (ev T ps (.ix a i2)).sl ρ = ((ev T ps (.ix a i2)).f ρ).bind fun p ρ1 => lift (optI p.1) ρ1 := rfl
@[simp] theorem f_slc : (ev T ps (.slc a lo hi)).f ρ = ((ev T ps a).o ρ).bind fun x ρ1 => ((ev T ps lo).sl ρ1).bind fun l ρ2 => ((ev T ps hi).sl ρ2).bind fun h ρ3 => bltO (val1 fun d => slcD d l h) [x] ρ3 := rfl
@[simp] theorem i_slc : (ev T ps (.slc a lo hi)).it ρ = ((ev T ps (.slc a lo hi)).f ρ).bind fun p ρ1 => lift (seqItems p.1) ρ1 := rfl
@[simp] theorem o_slc : (ev T ps (.slc a lo hi)).o ρ = frzV ((ev T ps (.slc a lo hi)).f ρ) := rfl
@[simp] theorem t_slc : (ev T ps (.slc a lo hi)).t ρ = ((ev T ps (.slc a lo hi)).o ρ).bind tstO := rfl
@[simp] theorem s_slc : (ev T ps (.slc a lo hi)).sl ρ = ((ev T ps (.slc a lo hi)).f ρ).bind fun p ρ1 => lift (optI p.1) ρ1 := rfl
@[simp] theorem f_rev : (ev T ps (.rev a)).f ρ = ((ev T ps a).o ρ).bind fun x ρ1 => bltO (val1 revD) [x] ρ1 := rfl
@[simp] theorem i_rev : (ev T ps (.rev a)).it ρ = ((ev T ps (.rev a)).f ρ).bind fun p ρ1 => lift (seqItems p.1) ρ1 := rfl
@[simp] theorem o_rev : (ev T ps (.rev a)).o ρ = frzV ((ev T ps (.rev a)).f ρ) := rfl
@[simp] theorem t_rev : (ev T ps (.rev a)).t ρ = ((ev T ps (.rev a)).o ρ).bind tstO := rfl
@[simp] theorem s_rev : (ev T ps (.rev a)).sl ρ = ((ev T ps (.rev a)).f ρ).bind fun p ρ1 => lift (optI p.1) ρ1 := rfl
theorem f_call : (ev T ps (.call j as)).f ρ = ((ev T ps as).ca (T.io j) ρ).bind fun os ρ1 => callR T j os ρ1 := rfl
@[simp] theorem i_call : (ev T ps (.call j as)).it ρ = ((ev T ps (.call j as)).f ρ).bind fun p ρ1 => lift (seqItems p.1) ρ1 := rfl
@[simp] theorem o_call : (ev T ps (.call j as)).o ρ = frzV ((ev T ps (.call j as)).f ρ) := rfl
@[simp] theorem t_call : (ev T ps (.call j as)).t ρ = ((ev T ps (.call j as)).o ρ).bind tstO := rfl
@[simp] theorem s_call : (ev T ps (.call j as)).sl ρ = ((ev T ps (.call j as)).f ρ).bind fun p ρ1 => lift (optI p.1) ρ1 := rfl
@[simp] theorem f_cav : (ev T ps (.cav i as)).f ρ = (match ρ[i]? with
      | some (some (.fn j, 0)) => if j < T.n then ((ev T ps as).ca (T.io j) ρ).bind fun os ρ1 => callR T j os ρ1 else .bad
      | _ => .bad) := rfl
@[simp] theorem i_cav : (ev T ps (.cav i as)).it ρ = ((ev T ps (.cav i as)).f ρ).bind fun p ρ1 => lift (seqItems p.1) ρ1 := rfl
@[simp] theorem o_cav : (ev T ps (.cav i as)).o ρ = frzV ((ev T ps (.cav i as)).f ρ) := rfl
@[simp] theorem t_cav : (ev T ps (.cav i as)).t ρ = ((ev T ps (.cav i as)).o ρ).bind tstO := rfl
@[simp] theorem s_cav : (ev T ps (.cav i as)).sl ρ = ((ev T ps (.cav i as)).f ρ).bind fun p ρ1 => lift (optI p.1) ρ1 := rfl
@[simp] theorem f_blt : (ev T ps (.blt bt as)).f ρ = ((ev T ps as).ao ρ).bind fun os ρ1 => bltO (bltD bt) os ρ1 := rfl
@[simp] theorem i_blt : (ev T ps (.blt bt as)).it ρ = ((ev T ps (.blt bt as)).f ρ).bind fun p ρ1 => lift (seqItems p.1) ρ1 := rfl
@[simp] theorem o_blt : (ev T ps (.blt bt as)).o ρ = frzV ((ev T ps (.blt bt as)).f ρ) := rfl
@[simp] theorem t_blt : (ev T ps (.blt bt as)).t ρ = ((ev T ps (.blt bt as)).o ρ).bind tstO := rfl
@[simp] theorem s_blt : (ev T ps (.blt bt as)).sl ρ = ((ev T ps (.blt bt as)).f ρ).bind fun p ρ1 => lift (optI p.1) ρ1 := rfl
@[simp] theorem f_mth : (ev T ps (.mth m a as)).f ρ = ((ev T ps a).o ρ).bind fun x ρ1 => if mthOk m (rdO ρ1 x) then ((ev T ps as).ao ρ1).bind fun os ρ2 => bltO (mthL m) (x :: os) ρ2 else .bad := rfl
@[simp] theorem i_mth : (ev T ps (.mth m a as)).it ρ = ((ev T ps (.mth m a as)).f ρ).bind fun p ρ1 => lift (seqItems p.1) ρ1 := rfl
@[simp] theorem o_mth : (ev T ps (.mth m a as)).o ρ = frzV ((ev T ps (.mth m a as)).f ρ) := rfl
@[simp] theorem t_mth : (ev T ps (.mth m a as)).t ρ = ((ev T ps (.mth m a as)).o ρ).bind tstO := rfl
@[simp] theorem s_mth : (ev T ps (.mth m a as)).sl ρ = ((ev T ps (.mth m a as)).f ρ).bind fun p ρ1 => lift (optI p.1) ρ1 := rfl
@[simp] theorem f_mut : (ev T ps (.mut mu i as)).f ρ = (varO i ρ).bind fun x ρ0 => if mutOk i ρ0 then ((ev T ps as).al ρ0).bind fun ds ρ1 => mutR mu i ds ρ1 else .bad := rfl
@[simp] theorem i_mut : (ev T ps (.mut mu i as)).it ρ = ((ev T ps (.mut mu i as)).f ρ).bind fun p ρ1 => lift (seqItems p.1) ρ1 := rfl
@[simp] theorem o_mut : (ev T ps (.mut mu i as)).o ρ = frzV ((ev T ps (.mut mu i as)).f ρ) := rfl
@[simp] theorem t_mut : (ev T ps (.mut mu i as)).t ρ = ((ev T ps (.mut mu i as)).o ρ).bind tstO := rfl
@[simp] theorem s_mut : (ev T ps (.mut mu i as)).sl ρ = ((ev T ps (.mut mu i as)).f ρ).bind fun p ρ1 => lift (optI p.1) ρ1 := rfl
@[simp] theorem f_fld : (ev T ps (.fld a x)).f ρ = ((ev T ps a).o ρ).bind fun o ρ1 => bltO (val1 (fldD x)) [o] ρ1 := rfl
@[simp] theorem i_fld : (ev T ps (.fld a x)).it ρ = ((ev T ps (.fld a x)).f ρ).bind fun p ρ1 => lift (seqItems p.1) ρ1 := rfl
@[simp] theorem o_fld : (ev T ps (.fld a x)).o ρ = frzV ((ev T ps (.fld a x)).f ρ) := rfl
@[simp] theorem t_fld : (ev T ps (.fld a x)).t ρ = ((ev T ps (.fld a x)).o ρ).bind tstO := rfl
@[simp] theorem s_fld : (ev T ps (.fld a x)).sl ρ = ((ev T ps (.fld a x)).f ρ).bind fun p ρ1 => lift (optI p.1) ρ1 := rfl
@[simp] theorem f_omt : (ev T ps (.omt k x j i as)).f ρ = (varO i ρ).bind fun y ρ0 => if insOk k x i ρ0 then ((ev T ps as).ca (T.io j).tail ρ0).bind fun os ρ1 => callR T j (y :: os) ρ1 else .bad := rfl
@[simp] theorem i_omt : (ev T ps (.omt k x j i as)).it ρ = ((ev T ps (.omt k x j i as)).f ρ).bind fun p ρ1 => lift (seqItems p.1) ρ1 := rfl
@[simp] theorem o_omt : (ev T ps (.omt k x j i as)).o ρ = frzV ((ev T ps (.omt k x j i as)).f ρ) := rfl
@[simp] theorem t_omt : (ev T ps (.omt k x j i as)).t ρ = ((ev T ps (.omt k x j i as)).o ρ).bind tstO := rfl
@[simp] theorem s_omt : (ev T ps (.omt k x j i as)).sl ρ = ((ev T ps (.omt k x j i as)).f ρ).bind fun p ρ1 => lift (optI p.1) ρ1 := rfl
@[simp] theorem f_mk : (ev T ps (.mk k j as)).f ρ = ((ev T ps as).al ρ).bind fun ds ρ1 => mkO ρ1.length (callR T j (.s ρ1.length :: ds.map fun p => .v p.1) (ρ1 ++ [some (.ins k [], 1)])) := rfl
@[simp] theorem i_mk : (ev T ps (.mk k j as)).it ρ = ((ev T ps (.mk k j as)).f ρ).bind fun p ρ1 => lift (seqItems p.1) ρ1 := rfl
@[simp] theorem o_mk : (ev T ps (.mk k j as)).o ρ = frzV ((ev T ps (.mk k j as)).f ρ) := rfl
@[simp] theorem t_mk : (ev T ps (.mk k j as)).t ρ = ((ev T ps (.mk k j as)).o ρ).bind tstO := rfl
@[simp] theorem s_mk : (ev T ps (.mk k j as)).sl ρ = ((ev T ps (.mk k j as)).f ρ).bind fun p ρ1 => lift (optI p.1) ρ1 := rfl
@[simp] theorem f_isn : (ev T ps (.isn a ty)).f ρ = ((ev T ps a).o ρ).bind fun x ρ1 => bltO (val1 fun d => bool0 (isTy ty d)) [x] ρ1 := rfl
@[simp] theorem i_isn : (ev T ps (.isn a ty)).it ρ = ((ev T ps (.isn a ty)).f ρ).bind fun p ρ1 => lift (seqItems p.1) ρ1 := rfl
@[simp] theorem o_isn : (ev T ps (.isn a ty)).o ρ = frzV ((ev T ps (.isn a ty)).f ρ) := rfl
@[simp] theorem t_isn : (ev T ps (.isn a ty)).t ρ = ((ev T ps (.isn a ty)).o ρ).bind tstO := rfl
@[simp] theorem s_isn : (ev T ps (.isn a ty)).sl ρ = ((ev T ps (.isn a ty)).f ρ).bind fun p ρ1 => lift (optI p.1) ρ1 := rfl
@[simp] theorem f_lc : (ev T ps (.lc own ct it ifs e)).f ρ = ((ev T ps it).it ρ).bind fun ds ρ1 => (noexc (compLoop own (bindT ps ct) (ifsT ifs (ev T ps ifs).t) (ev T ps e).f ds ρ1 [])).bind fun xs ρ2 => .ok (.lst xs, 1) (backR ρ1 ρ2 own) := rfl
@[simp] theorem i_lc : (ev T ps (.lc own ct it ifs e)).it ρ = ((ev T ps (.lc own ct it ifs e)).f ρ).bind fun p ρ1 => lift (seqItems p.1) ρ1 := rfl
@[simp] theorem o_lc : (ev T ps (.lc own ct it ifs e)).o ρ = frzV ((ev T ps (.lc own ct it ifs e)).f ρ) := rfl
@[simp] theorem t_lc : (ev T ps (.lc own ct it ifs e)).t ρ = ((ev T ps (.lc own ct it ifs e)).o ρ).bind tstO := rfl
@[simp] theorem s_lc : (ev T ps (.lc own ct it ifs e)).sl ρ = ((ev T ps (.lc own ct it ifs e)).f ρ).bind fun p ρ1 => lift (optI p.1) ρ1 := rfl
@[simp] theorem i_rg1 : (ev T ps (.rg1 a)).it ρ = ((ev T ps a).f ρ).bind fun p ρ1 => match p.1 with
      | .int j => if -(2 ^ 62) ≤ j ∧ j < 2 ^ 62 then .ok (rangeD 0 j.toNat) ρ1 else .bad
      | _ => .bad := rfl
@[simp] theorem i_rg2 {b : CE} : (ev T ps (.rg2 a b)).it ρ = ((ev T ps a).f ρ).bind fun p ρ1 => ((ev T ps b).f ρ1).bind fun q ρ2 => match p.1, q.1 with
      | .int i, .int j => if -(2 ^ 62) ≤ i ∧ i < 2 ^ 62 ∧ -(2 ^ 62) ≤ j ∧ j < 2 ^ 62 then .ok (rangeD i (j - i).toNat) ρ2 else .bad
      | _, _ => .bad := rfl
@[simp] theorem i_enm : (ev T ps (.enm a)).it ρ = ((ev T ps a).f ρ).bind fun p ρ1 => match p.1 with
      | .lst ds => .ok (enumD 0 ds) ρ1
      | .str x => .ok (enumD 0 (x.cps.toList.map sgn1)) ρ1
      | _ => .bad := rfl
@[simp] theorem i_zip {b : CE} : (ev T ps (.zip a b)).it ρ = ((ev T ps a).f ρ).bind fun p ρ1 => ((ev T ps b).f ρ1).bind fun q ρ2 => match p.1, q.1 with
      | .lst ds, .lst es => .ok (zipD ds es) ρ2
      | .tup ds, .tup es => .ok (zipD ds es) ρ2
      | _, _ => .bad := rfl
@[simp] theorem f_lrg : (ev T ps (.lrg a)).f ρ = ((ev T ps a).f ρ).bind fun p ρ1 => match p.1 with
      | .int j => if -(2 ^ 62) ≤ j ∧ j ≤ LIM then .ok (.lst (rangeD 0 j.toNat), 1) ρ1 else .bad
      | _ => .bad := rfl
@[simp] theorem i_lrg : (ev T ps (.lrg a)).it ρ = ((ev T ps (.lrg a)).f ρ).bind fun p ρ1 => lift (seqItems p.1) ρ1 := rfl
@[simp] theorem o_lrg : (ev T ps (.lrg a)).o ρ = frzV ((ev T ps (.lrg a)).f ρ) := rfl
@[simp] theorem t_lrg : (ev T ps (.lrg a)).t ρ = ((ev T ps (.lrg a)).o ρ).bind tstO := rfl
@[simp] theorem s_lrg : (ev T ps (.lrg a)).sl ρ = ((ev T ps (.lrg a)).f ρ).bind fun p ρ1 => lift (optI p.1) ρ1 := rfl
@[simp] theorem f_dnw : (ev T ps .dnw).f ρ = .ok (.dic [], 2) ρ := rfl
@[simp] theorem i_dnw : (ev T ps .dnw).it ρ = ((ev T ps .dnw).f ρ).bind fun p ρ1 => lift (seqItems p.1) ρ1 := rfl
@[simp] theorem o_dnw : (ev T ps .dnw).o ρ = frzV ((ev T ps .dnw).f ρ) := rfl
@[simp] theorem t_dnw : (ev T ps .dnw).t ρ = ((ev T ps .dnw).o ρ).bind tstO := rfl
@[simp] theorem s_dnw : (ev T ps .dnw).sl ρ = ((ev T ps .dnw).f ρ).bind fun p ρ1 => lift (optI p.1) ρ1 := rfl
@[simp] theorem s_nil : (ev T ps .nil).sl ρ = .ok none ρ := rfl
@[simp] theorem al_nil : (ev T ps .nil).al ρ = .ok [] ρ := rfl
@[simp] theorem ao_nil : (ev T ps .nil).ao ρ = .ok [] ρ := rfl
@[simp] theorem ca_nil : (ev T ps .nil).ca [] ρ = .ok [] ρ := rfl
@[simp] theorem al_cons : (ev T ps (.cons a as)).al ρ = ((ev T ps a).f ρ).bind fun x ρ1 => ((ev T ps as).al ρ1).bind fun xs ρ2 => .ok (x :: xs) ρ2 := rfl
@[simp] theorem ao_cons : (ev T ps (.cons a as)).ao ρ = ((ev T ps a).o ρ).bind fun x ρ1 => ((ev T ps as).ao ρ1).bind fun xs ρ2 => .ok (x :: xs) ρ2 := rfl
@[simp] theorem ca_t : (ev T ps (.cons a as)).ca (true :: bs) ρ = ((ev T ps a).o ρ).bind fun x ρ1 => ((ev T ps as).ca bs ρ1).bind fun xs ρ2 => .ok (x :: xs) ρ2 := rfl
@[simp] theorem ca_f : (ev T ps (.cons a as)).ca (false :: bs) ρ = (frzV ((ev T ps a).f ρ)).bind fun x ρ1 => ((ev T ps as).ca bs ρ1).bind fun xs ρ2 => .ok (x :: xs) ρ2 := rfl
variable {A B : CS} {d : D} {l : Nat}
@[simp] theorem S_nil : evS T ps .nil ρ = .nx ρ := rfl
@[simp] theorem S_seq : evS T ps (.seq A B) ρ = (evS T ps A ρ).seq (evS T ps B) := rfl
@[simp] theorem S_pass : evS T ps .pass ρ = .nx ρ := rfl
@[simp] theorem S_ex : evS T ps (.ex e) ρ = ((ev T ps e).f ρ).then fun _ ρ1 => .nx ρ1 := rfl
@[simp] theorem S_asg : evS T ps (.asg ct e) ρ = ((ev T ps e).f ρ).then fun p ρ1 => asgT ps ct p ρ1 := rfl
@[simp] theorem S_par {ts : List Nat} : evS T ps (.par ts as) ρ = ((ev T ps as).al ρ).then fun xs ρ1 => match parT ps ts xs ρ1 with
      | some ρ2 => .nx ρ2
      | none => .bad := rfl
@[simp] theorem S_ret {n : Nat} : evS T ps (.ret (.var n)) ρ = (match ρ[n]? with
    | some (some (d, l)) => .rt d l (ρ.set n none)
    | _ => .bad) := rfl
@[simp] theorem S_retN : evS T ps .retN ρ = .rt .non 0 ρ := rfl
@[simp] theorem S_ite : evS T ps (.ite t A B) ρ = ((ev T ps t).t ρ).then fun c ρ1 => if c then evS T ps A ρ1 else evS T ps B ρ1 := rfl
@[simp] theorem S_brk : evS T ps .brk ρ = .bk ρ := rfl
@[simp] theorem S_cont : evS T ps .cont ρ = .ct ρ := rfl
theorem S_for : evS T ps (.for_ ct it B) ρ = ((ev T ps it).it ρ).then fun ds ρ1 => forLoop (bindT ps ct) (evS T ps B) ds ρ1 := rfl
theorem S_while : evS T ps (.while_ t B) ρ = whileLoop (ev T ps t).t (evS T ps B) whileFuel ρ := rfl
@[simp] theorem S_aug {o : Operator} : evS T ps (.aug i o e) ρ = (match ρ[i]? with
      | some (some (x, 0)) => ((ev T ps e).f ρ).then fun p ρ1 => match ipD o x p.1 with
        | some r => asgT ps (.nm i) (r, 0) ρ1
        | none => .bad
      | _ => .bad) := rfl
@[simp] theorem S_set : evS T ps (.set i a e) ρ = ((ev T ps e).f ρ).then fun p ρ1 => (varO i ρ1).then fun _ ρ2 => if mutOk i ρ2 then ((ev T ps a).f ρ2).then fun q ρ3 => setO i q.1 p.1 ρ3 else .bad := rfl
@[simp] theorem S_sau {o : Operator} : evS T ps (.sau i a o e) ρ = (varO i ρ).then fun _ ρ1 => if mutOk i ρ1 then ((ev T ps a).f ρ1).then fun q ρ2 => match getO i q.1 ρ2 with
      | some old => ((ev T ps e).f ρ2).then fun p ρ3 => match ipD o old p.1 with
        | some r => setO i q.1 r ρ3
        | none => .bad
      | none => .bad else .bad := rfl
@[simp] theorem S_fst : evS T ps (.fst i x e) ρ = ((ev T ps e).f ρ).then fun p ρ1 => (varO i ρ1).then fun _ ρ2 => fsetO i x p.1 ρ2 := rfl
@[simp] theorem S_fau {o : Operator} {f : Str} : evS T ps (.fau i f o e) ρ = (match ρ[i]? with
      | some (some (.ins k fs, 1)) => match fs.lookup f with
        | some old => ((ev T ps e).f ρ).then fun p ρ1 => match ipD o old p.1 with
          | some r => if clsOk i k ρ1 then fsetO i f r ρ1 else .bad
          | none => .bad
        | none => .bad
      | _ => .bad) := rfl
variable {ts : CT} {ds : List D}
@[simp] theorem A_nm {p : D × Nat} : asgT ps (.nm i) p ρ = if i < ρ.length ∧ ps.contains i = false then .nx (ρ.set i (some p)) else .bad := rfl
@[simp] theorem A_tup : asgT ps (.tp ts) (.tup ds, l) ρ = (match bindTs ps ts ds ρ with
    | some ρ' => .nx ρ'
    | none => .bad) := rfl
@[simp] theorem A_lst : asgT ps (.tp ts) (.lst ds, l) ρ = (match bindTs ps ts ds ρ with
    | some ρ' => .nx ρ'
    | none => .bad) := rfl
@[simp] theorem B_nm : bindT ps (.nm i) d ρ = if i < ρ.length ∧ ps.contains i = false then some (ρ.set i (some (d, 0))) else none := rfl
@[simp] theorem B_tup : bindT ps (.tp ts) (.tup ds) ρ = bindTs ps ts ds ρ := rfl
@[simp] theorem B_lst : bindT ps (.tp ts) (.lst ds) ρ = bindTs ps ts ds ρ := rfl
@[simp] theorem Bs_nil : bindTs ps .nil [] ρ = some ρ := rfl
@[simp] theorem Bs_cons : bindTs ps (.cons ct ts) (d :: ds) ρ = (match bindT ps ct d ρ with
    | some ρ1 => bindTs ps ts ds ρ1
    | none => none) := rfl
@[simp] theorem R_non : evS T ps (.ret .non) ρ = ((ev T ps .non).f ρ).then fun p ρ1 => .rt p.1 p.2 ρ1 := rfl
@[simp] theorem R_bl : evS T ps (.ret (.bl b)) ρ = ((ev T ps (.bl b)).f ρ).then fun p ρ1 => .rt p.1 p.2 ρ1 := rfl
@[simp] theorem R_int : evS T ps (.ret (.int z)) ρ = ((ev T ps (.int z)).f ρ).then fun p ρ1 => .rt p.1 p.2 ρ1 := rfl
@[simp] theorem R_str : evS T ps (.ret (.str x)) ρ = ((ev T ps (.str x)).f ρ).then fun p ρ1 => .rt p.1 p.2 ρ1 := rfl
@[simp] theorem R_con : evS T ps (.ret (.con x)) ρ = ((ev T ps (.con x)).f ρ).then fun p ρ1 => .rt p.1 p.2 ρ1 := rfl
@[simp] theorem R_fnv : evS T ps (.ret (.fnv j)) ρ = ((ev T ps (.fnv j)).f ρ).then fun p ρ1 => .rt p.1 p.2 ρ1 := rfl
@[simp] theorem R_bin {b : CE} : evS T ps (.ret (.bin op a b)) ρ = ((ev T ps (.bin op a b)).f ρ).then fun p ρ1 => .rt p.1 p.2 ρ1 := rfl
@[simp] theorem R_neg : evS T ps (.ret (.neg a)) ρ = ((ev T ps (.neg a)).f ρ).then fun p ρ1 => .rt p.1 p.2 ρ1 := rfl
@[simp] theorem R_not : evS T ps (.ret (.not a)) ρ = ((ev T ps (.not a)).f ρ).then fun p ρ1 => .rt p.1 p.2 ρ1 := rfl
@[simp] theorem R_and {b : CE} : evS T ps (.ret (.and a b)) ρ = ((ev T ps (.and a b)).f ρ).then fun p ρ1 => .rt p.1 p.2 ρ1 := rfl
@[simp] theorem R_or {b : CE} : evS T ps (.ret (.or a b)) ρ = ((ev T ps (.or a b)).f ρ).then fun p ρ1 => .rt p.1 p.2 ρ1 := rfl
@[simp] theorem R_cmp {b : CE} : evS T ps (.ret (.cmp op2 a b)) ρ = ((ev T ps (.cmp op2 a b)).f ρ).then fun p ρ1 => .rt p.1 p.2 ρ1 := rfl
@[simp] theorem R_chn {b : CE} : evS T ps (.ret (.chn o1 o2 a b c)) ρ = ((ev T ps (.chn o1 o2 a b c)).f ρ).then fun p ρ1 => .rt p.1 p.2 ρ1 := rfl
@[simp] theorem R_ife {b : CE} : evS T ps (.ret (.ife t a b)) ρ = ((ev T ps (.ife t a b)).f ρ).then fun p ρ1 => .rt p.1 p.2 ρ1 := rfl
@[simp] theorem R_tup : evS T ps (.ret (.tup as)) ρ = ((ev T ps (.tup as)).f ρ).then fun p ρ1 => .rt p.1 p.2 ρ1 := rfl
@[simp] theorem R_lst : evS T ps (.ret (.lst as)) ρ = ((ev T ps (.lst as)).f ρ).then fun p ρ1 => .rt p.1 p.2 ρ1 := rfl
@[simp] theorem R_ix : evS T ps (.ret (.ix a i2)) ρ = ((ev T ps (.ix a i2)).f ρ).then fun p ρ1 => .rt p.1 p.2 ρ1 := rfl
@[simp] theorem R_slc : evS T ps (.ret (.slc a lo hi)) ρ = ((ev T ps (.slc a lo hi)).f ρ).then fun p ρ1 => .rt p.1 p.2 ρ1 := rfl
@[simp] theorem R_rev : evS T ps (.ret (.rev a)) ρ = ((ev T ps (.rev a)).f ρ).then fun p ρ1 => .rt p.1 p.2 ρ1 := rfl
@[simp] theorem R_call : evS T ps (.ret (.call j as)) ρ = ((ev T ps (.call j as)).f ρ).then fun p ρ1 => .rt p.1 p.2 ρ1 := rfl
@[simp] theorem R_cav : evS T ps (.ret (.cav i as)) ρ = ((ev T ps (.cav i as)).f ρ).then fun p ρ1 => .rt p.1 p.2 ρ1 := rfl
@[simp] theorem R_blt : evS T ps (.ret (.blt bt as)) ρ = ((ev T ps (.blt bt as)).f ρ).then fun p ρ1 => .rt p.1 p.2 ρ1 := rfl
@[simp] theorem R_mth : evS T ps (.ret (.mth m a as)) ρ = ((ev T ps (.mth m a as)).f ρ).then fun p ρ1 => .rt p.1 p.2 ρ1 := rfl
@[simp] theorem R_mut : evS T ps (.ret (.mut mu i as)) ρ = ((ev T ps (.mut mu i as)).f ρ).then fun p ρ1 => .rt p.1 p.2 ρ1 := rfl
@[simp] theorem R_fld : evS T ps (.ret (.fld a x)) ρ = ((ev T ps (.fld a x)).f ρ).then fun p ρ1 => .rt p.1 p.2 ρ1 := rfl
@[simp] theorem R_omt : evS T ps (.ret (.omt k x j i as)) ρ = ((ev T ps (.omt k x j i as)).f ρ).then fun p ρ1 => .rt p.1 p.2 ρ1 := rfl
@[simp] theorem R_mk : evS T ps (.ret (.mk k j as)) ρ = ((ev T ps (.mk k j as)).f ρ).then fun p ρ1 => .rt p.1 p.2 ρ1 := rfl
@[simp] theorem R_isn : evS T ps (.ret (.isn a ty)) ρ = ((ev T ps (.isn a ty)).f ρ).then fun p ρ1 => .rt p.1 p.2 ρ1 := rfl
@[simp] theorem R_lc : evS T ps (.ret (.lc own ct it ifs e)) ρ = ((ev T ps (.lc own ct it ifs e)).f ρ).then fun p ρ1 => .rt p.1 p.2 ρ1 := rfl
@[simp] theorem R_lrg : evS T ps (.ret (.lrg a)) ρ = ((ev T ps (.lrg a)).f ρ).then fun p ρ1 => .rt p.1 p.2 ρ1 := rfl
@[simp] theorem R_dnw : evS T ps (.ret .dnw) ρ = ((ev T ps .dnw).f ρ).then fun p ρ1 => .rt p.1 p.2 ρ1 := rfl
end
end Ev
end
section
set_option Elab.async false
set_option linter.all false
namespace Ev
open PySem PySem.Spec L2
theorem bind_c {α β : Type} {r r' : Res α} {f : α → Rho → Res β} (h : r = r') : r.bind f = r'.bind f := by rw [h]
theorem then_c {α : Type} {r r' : Res α} {f : α → Rho → SR} (h : r = r') : r.then f = r'.then f := by rw [h]
theorem seq_c {r r' : SR} {f : Rho → SR} (h : r = r') : r.seq f = r'.seq f := by rw [h]
theorem LIMv : LIM = 16777216 := rfl
/-- whole numbers from k on, m of them -/
def natL (k m : Nat) : List D := (List.range' k m).map fun i : Nat => D.int ((i : Nat) : Int)
theorem natL_zero (k : Nat) : natL k 0 = [] := rfl
theorem natL_succ (k m : Nat) : natL k (m + 1) = .int (k : Int) :: natL (k + 1) m := rfl
theorem rangeD_nat (m : Nat) : rangeD 0 m = natL 0 m := by simp [rangeD, natL, List.range_eq_range']
theorem rg1_it {T : Tb} {ps : List Nat} {e : CE} {ρ ρ1 : Rho} {m l : Nat} (h : (ev T ps e).f ρ = .ok (.int (m : Int), l) ρ1) (hm : m ≤ LIM) : (ev T ps (.rg1 e)).it ρ = .ok (natL 0 m) ρ1 := by
  have hk : -(2 ^ 62) ≤ (m : Int) ∧ (m : Int) < 2 ^ 62 := by
    rw [LIMv] at hm
    constructor <;> omega
  rw [i_rg1, h, bind_ok']
  show (if -(2 ^ 62) ≤ (m : Int) ∧ (m : Int) < 2 ^ 62 then Res.ok (rangeD 0 (m : Int).toNat) ρ1 else Res.bad) = _
  rw [if_pos hk, Int.toNat_natCast, rangeD_nat]
end Ev
end
section
set_option Elab.async false
set_option linter.all false
set_option maxRecDepth 100000
set_option maxHeartbeats 4000000
namespace EvL
open PySem PySem.Spec L2 Ev
def optW : Option (List Nat) → D
  | none => .non
  | some w => tx w
/-- the last word that fits -/
def toldGo (t : List Nat) (a : Nat) : List (List Nat) → Option (List Nat) → Option (List Nat)
  | [], o => o
  | w :: ws, o => toldGo t a ws (if shareGo t w a = w.length then some w else o)
abbrev s29 (t : List Nat) (a : Nat) (W : Slt) (b : Int) (o : Option (List Nat)) (x y z : Slt) : Rho := [some (tx t, 0), some (.int a, 0), W, some (.int b, 0), some (optW o, 0), x, y, z]
theorem max_int (i j : Int) : blt2 .max (.int i) (.int j) = some (.int (if j > i then j else i), 0) := rfl
theorem t29 (n : Nat) (hn : 26 < n) (t w : List Nat) (a : Nat) (W : Slt) (b : Int) (o : Option (List Nat)) (y z : Slt) (hl : t.length ≤ 100000) (hw : w.length ≤ 100000) : evS (sysP.tb n) [] p29_0 (s29 t a W b o (some (tx w, 0)) y z) =
    .nx (s29 t a W (if (shareGo t w a : Int) > b then (shareGo t w a : Int) else b) (if shareGo t w a = w.length then some w else o) (some (tx w, 0)) (some (.int (shareGo t w a), 0)) (some (.bl (decide (shareGo t w a = w.length)), 0))) := by
  have hc := fun ρ => call26 (n := n) hn (ρ := ρ) (t := t) (w := w) (a := a) hl hw
  by_cases h : shareGo t w a = w.length
  · simp [varO, varF, frzV, tstO, lift_some, bltO, rdOs, rdO, val1, val2, bool0, optI, seqItems, truD, ifsT, bind_ok', then_ok, seq_nx, seq_rt, seq_bk, seq_ct, setO, getO, ipD, mutOk, mutR, LIMv, f_call, p29_0, s29, io26, hc, bltD, max_int, h, optW]
  · simp [varO, varF, frzV, tstO, lift_some, bltO, rdOs, rdO, val1, val2, bool0, optI, seqItems, truD, ifsT, bind_ok', then_ok, seq_nx, seq_rt, seq_bk, seq_ct, setO, getO, ipD, mutOk, mutR, LIMv, f_call, p29_0, s29, io26, hc, bltD, max_int, h, optW]
theorem l29 (n : Nat) (hn : 26 < n) (t : List Nat) (a : Nat) (W : Slt) (hl : t.length ≤ 100000) : ∀ (ws : List (List Nat)) (b : Int) (o : Option (List Nat)) (x y z : Slt), (∀ w ∈ ws, w.length ≤ 100000) → ∃ x' y' z', forLoop (bindT [] (.nm 5)) (evS (sysP.tb n) [] p29_0) (ws.map tx) (s29 t a W b o x y z) = .nx (s29 t a W (maxI (shs t a ws) b) (toldGo t a ws o) x' y' z')
  | [], b, o, x, y, z, _ => ⟨x, y, z, rfl⟩
  | w :: ws, b, o, x, y, z, hw => by
    have hbd : bindT [] (.nm 5) (tx w) (s29 t a W b o x y z) = some (s29 t a W b o (some (tx w, 0)) y z) := by simp [bindT, s29]
    have hs := t29 n hn t w a W b o y z hl (hw w List.mem_cons_self)
    obtain ⟨x', y', z', ih⟩ := l29 n hn t a W hl ws (if (shareGo t w a : Int) > b then (shareGo t w a : Int) else b) (if shareGo t w a = w.length then some w else o) (some (tx w, 0)) (some (.int (shareGo t w a), 0)) (some (.bl (decide (shareGo t w a = w.length)), 0)) (fun u hu => hw u (List.mem_cons_of_mem _ hu))
    refine ⟨x', y', z', ?_⟩
    simp only [List.map_cons, forLoop, hbd, hs]
    exact ih
/-- _law_one_over -/
def oneOver (t : List Nat) (a : Nat) (ws : List (List Nat)) : D := .tup [.int (maxI (shs t a ws) 0), .bl (toldGo t a ws none).isSome, optW (toldGo t a ws none)]
theorem r29 (n : Nat) (hn : 26 < n) (t : List Nat) (a : Nat) (ws : List (List Nat)) (hl : t.length ≤ 100000) (hw : ∀ w ∈ ws, w.length ≤ 100000) : runDef (sysP.tb n) d29 [tx t, .int a, .tup (ws.map tx)] = .ok (oneOver t a ws) 0 [none, none, none] := by
  have hps : d29.ps = [] := rfl
  have e : startR d29 [tx t, .int a, .tup (ws.map tx)] = [some (tx t, 0), some (.int a, 0), some (.tup (ws.map tx), 0), none, none, none, none, none] := rfl
  have hseq : ∀ x y ρ, evS (sysP.tb n) [] (.seq x y) ρ = (evS (sysP.tb n) [] x ρ).seq (evS (sysP.tb n) [] y) := fun _ _ _ => rfl
  obtain ⟨B1, B3, hbody, e1, e3⟩ : ∃ B1 B3, d29.body = .seq B1 (.seq (.for_ (.nm 5) (.var 2) p29_0) (.seq B3 .nil)) ∧ B1 = .asg (.tp (.cons (.nm 3) (.cons (.nm 4) .nil))) (.tup (.cons (.int 0) (.cons .non .nil))) ∧
    B3 = .ret (.ife (.cmp .IsNot (.var 4) .non) (.tup (.cons (.var 3) (.cons (.bl true) (.cons (.var 4) .nil)))) (.tup (.cons (.var 3) (.cons (.bl false) (.cons .non .nil))))) := ⟨_, _, rfl, rfl, rfl⟩
  have h1 : evS (sysP.tb n) [] B1 [some (tx t, 0), some (.int a, 0), some (.tup (ws.map tx), 0), none, none, none, none, none] = .nx (s29 t a (some (.tup (ws.map tx), 0)) 0 none none none none) := by
    simp [varO, varF, frzV, tstO, lift_some, bltO, rdOs, rdO, val1, val2, bool0, optI, seqItems, truD, ifsT, bind_ok', then_ok, seq_nx, seq_rt, seq_bk, seq_ct, setO, getO, ipD, mutOk, mutR, LIMv, f_call, e1, s29]; rfl
  have hit : (ev (sysP.tb n) [] (.var 2)).it (s29 t a (some (.tup (ws.map tx), 0)) 0 none none none none) = .ok (ws.map tx) (s29 t a (some (.tup (ws.map tx), 0)) 0 none none none none) := by
    simp [varO, varF, frzV, tstO, lift_some, bltO, rdOs, rdO, val1, val2, bool0, optI, seqItems, truD, ifsT, bind_ok', then_ok, seq_nx, seq_rt, seq_bk, seq_ct, setO, getO, ipD, mutOk, mutR, LIMv, f_call, s29]
  obtain ⟨x', y', z', h2⟩ := l29 n hn t a (some (.tup (ws.map tx), 0)) hl ws 0 none none none none hw
  have h2' : evS (sysP.tb n) [] (.for_ (.nm 5) (.var 2) p29_0) (s29 t a (some (.tup (ws.map tx), 0)) 0 none none none none) = .nx (s29 t a (some (.tup (ws.map tx), 0)) (maxI (shs t a ws) 0) (toldGo t a ws none) x' y' z') := by
    show ((ev (sysP.tb n) [] (.var 2)).it _).then _ = _
    rw [hit, then_ok, h2]
  rw [runDef_eq rfl, hps, e, hbody, hseq, h1, seq_nx, hseq, h2', seq_nx]
  unfold oneOver
  generalize maxI (shs t a ws) 0 = m
  generalize toldGo t a ws none = o
  cases o with
  | none => simp [varO, varF, frzV, tstO, lift_some, bltO, rdOs, rdO, val1, val2, bool0, optI, seqItems, truD, ifsT, bind_ok', then_ok, seq_nx, seq_rt, seq_bk, seq_ct, setO, getO, ipD, mutOk, mutR, LIMv, f_call, e3, s29, cmpD, optW, finR, maskR]; try rfl
  | some w =>
    have hne : cmpD .IsNot (tx w) .non = some true := rfl
    simp [varO, varF, frzV, tstO, lift_some, bltO, rdOs, rdO, val1, val2, bool0, optI, seqItems, truD, ifsT, bind_ok', then_ok, seq_nx, seq_rt, seq_bk, seq_ct, setO, getO, ipD, mutOk, mutR, LIMv, f_call, e3, s29, hne, optW, finR, maskR]; try rfl
/-! the law's own and the program's -/
theorem share_pre (t : List Nat) : ∀ (w o : List Nat) (a : Nat), shareGo t w a = w.length → w.length ≤ shareGo t o a → w <+: o
  | [], o, a, _, _ => List.nil_prefix
  | c :: w, [], a, _, h => by simp [shareGo] at h
  | c :: w, d :: o, a, h1, h2 => by
    unfold shareGo at h1 h2
    by_cases hc : sgnAt t a = [c]
    · rw [if_pos hc] at h1
      by_cases hd : sgnAt t a = [d]
      · rw [if_pos hd] at h2
        have hcd : c = d := by rw [hc] at hd; exact (List.cons.inj hd).1
        subst hcd
        simp only [List.length_cons] at h1 h2
        have := share_pre t w o (a + 1) (by omega) (by omega)
        exact (List.prefix_cons_inj c).mpr this
      · rw [if_neg hd] at h2; simp at h2
    · rw [if_neg hc] at h1; simp at h1
def PF (ws : List (List Nat)) : Prop := ∀ w ∈ ws, ∀ u ∈ ws, w <+: u → w = u
theorem maxI_ge : ∀ (l : List Int) (m : Int), m ≤ maxI l m ∧ ∀ x ∈ l, x ≤ maxI l m
  | [], m => ⟨Int.le_refl _, fun _ h => nomatch h⟩
  | y :: l, m => by
    obtain ⟨h1, h2⟩ := maxI_ge l (if y > m then y else m)
    have e : maxI (y :: l) m = maxI l (if y > m then y else m) := rfl
    rw [e]
    have h3 : m ≤ (if y > m then y else m) ∧ y ≤ (if y > m then y else m) := by split <;> omega
    refine ⟨by omega, fun x hx => ?_⟩
    rcases List.mem_cons.mp hx with e | hx
    · subst e; omega
    · exact h2 x hx
theorem one_mem (t : List Nat) (a : Nat) (v : List Nat) (vs : List (List Nat)) : oneAt t a (v :: vs) ∈ v :: vs ∧ (shareGo t (oneAt t a (v :: vs)) a : Int) = maxI (shs t a vs) (shareGo t v a) := by
  have hlt := bestI_lt (shareGo t v a : Int) (shs t a vs)
  have hlt2 : bestI (shs t a (v :: vs)) < (v :: vs).length := by
    have : (shs t a vs).length = vs.length := by simp [shs]
    simpa [shs, this] using hlt
  have hf : (shs t a (v :: vs))[bestI (shs t a (v :: vs))]? = some (maxI (shs t a vs) (shareGo t v a)) := by
    have h1 : shs t a (v :: vs) = (shareGo t v a : Int) :: shs t a vs := rfl
    rw [h1]
    unfold bestI at hlt ⊢
    rw [List.getElem?_eq_getElem hlt]
    have := List.findIdx_getElem (w := hlt)
    simpa using this
  unfold oneAt
  rw [List.getD_eq_getElem?_getD, List.getElem?_eq_getElem hlt2, Option.getD_some]
  refine ⟨List.getElem_mem hlt2, ?_⟩
  have h2 : (shs t a (v :: vs))[bestI (shs t a (v :: vs))]? = some ((shareGo t ((v :: vs)[bestI (shs t a (v :: vs))]) a : Int)) := by
    unfold shs
    rw [List.getElem?_map]
    have := List.getElem?_eq_getElem hlt2
    unfold shs at this
    rw [this]; rfl
  rw [hf] at h2
  exact (Option.some.inj h2).symm
theorem told_all (t : List Nat) (a : Nat) (o : List Nat) : ∀ (ws : List (List Nat)) (x : Option (List Nat)), (∀ w ∈ ws, shareGo t w a = w.length → w = o) → toldGo t a ws x = if ∃ w ∈ ws, shareGo t w a = w.length then some o else x
  | [], x, _ => by simp [toldGo]
  | w :: ws, x, h => by
    unfold toldGo
    rw [told_all t a o ws _ (fun u hu => h u (List.mem_cons_of_mem _ hu))]
    by_cases h1 : ∃ u ∈ ws, shareGo t u a = u.length
    · rw [if_pos h1, if_pos (by obtain ⟨u, hu, hs⟩ := h1; exact ⟨u, List.mem_cons_of_mem _ hu, hs⟩)]
    · rw [if_neg h1]
      by_cases h2 : shareGo t w a = w.length
      · rw [if_pos h2, if_pos ⟨w, List.mem_cons_self, h2⟩, h w List.mem_cons_self h2]
      · rw [if_neg h2, if_neg]
        rintro ⟨u, hu, hs⟩
        rcases List.mem_cons.mp hu with e | hu
        · rw [e] at hs; exact h2 hs
        · exact h1 ⟨u, hu, hs⟩
theorem one_law (t : List Nat) (a : Nat) (v : List Nat) (vs : List (List Nat)) (hpf : PF (v :: vs)) : maxI (shs t a (v :: vs)) 0 = shareGo t (oneAt t a (v :: vs)) a ∧ toldGo t a (v :: vs) none = if shareGo t (oneAt t a (v :: vs)) a = (oneAt t a (v :: vs)).length then some (oneAt t a (v :: vs)) else none := by
  obtain ⟨h1, h2⟩ := one_mem t a v vs
  refine ⟨?_, ?_⟩
  · rw [h2]
    show maxI (shs t a vs) (if (shareGo t v a : Int) > 0 then (shareGo t v a : Int) else 0) = _
    congr 1
    split <;> omega
  · have hall : ∀ w ∈ v :: vs, shareGo t w a = w.length → w = oneAt t a (v :: vs) := by
      intro w hw hs
      refine hpf w hw _ h1 (share_pre t w _ a hs ?_)
      have hge := maxI_ge (shs t a vs) (shareGo t v a)
      have : (shareGo t w a : Int) ≤ maxI (shs t a vs) (shareGo t v a) := by
        rcases List.mem_cons.mp hw with e | hw
        · rw [e]; exact hge.1
        · exact hge.2 _ (by unfold shs; exact List.mem_map.mpr ⟨w, hw, rfl⟩)
      omega
    rw [told_all t a _ _ _ hall]
    by_cases h : shareGo t (oneAt t a (v :: vs)) a = (oneAt t a (v :: vs)).length
    · rw [if_pos h, if_pos ⟨_, h1, h⟩]
    · rw [if_neg h, if_neg]
      rintro ⟨w, hw, hs⟩
      rw [← hall w hw hs] at h
      exact h hs
end EvL
end
section
set_option Elab.async false
set_option linter.all false
set_option maxRecDepth 100000
set_option maxHeartbeats 4000000
namespace EvL
open PySem PySem.Spec L2 Ev
theorem run30 {n : Nat} (h : 30 < n) : (sysP.tb n).run 30 = runDef (sysP.tb 30) d30 := runP h rfl
theorem io30 (n : Nat) : (sysP.tb n).io 30 = [false, false, false, false] := ioP (d := d30) rfl
theorem call30 {n : Nat} (hn : 30 < n) {ρ : Rho} {t : List Nat} {a : Nat} {lo hi : Int} (hl : t.length ≤ 100000) : callR (sysP.tb n) 30 [.v (tx t), .v (.int a), .v (.int lo), .v (.int hi)] ρ = .ok (cntOver t a lo hi, 0) ρ :=
  call_ok (io30 n) rfl rfl ((congrFun (run30 hn) _).trans (r30 _ t a lo hi hl)) rfl
def rowOv (t : List Nat) (a : Nat) (lo hi : Int) : Nat → List Int → Nat → D
  | 0, f, o => .tup [.int o, .bl true, .tup (f.map D.int)]
  | k + 1, f, o => if sgnAt t (a + o) = [32] then
      (if btw (sgnAt t (a + o + 1)) lo hi = true then rowOv t a lo hi k (f ++ [((sgnAt t (a + o + 1)).headD 0 : Int) - 48]) (o + 2) else .tup [.int (o + 1 : Nat), .bl false, .non])
    else .tup [.int o, .bl (!decide (f = [])), .tup (f.map D.int)]
abbrev s31 (t : List Nat) (a : Nat) (m lo hi : Int) (o : Nat) (f : List Int) (x y z w : Slt) : Rho := [some (tx t, 0), some (.int a, 0), some (.int m, 0), some (.int lo, 0), some (.int hi, 0), some (.int o, 0), some (.lst (f.map D.int), 1), x, y, z, w]
def B31 : CS := .seq (.ret (.tup (.cons (.var 5) (.cons (.bl true) (.cons (.blt .tuple (.cons (.var 6) .nil)) .nil))))) .nil
theorem tup_lst (ds : List D) : blt1 .tuple (.lst ds) = some (.tup ds, 0) := rfl
theorem ints_ne_nil (f : List Int) : cmpD .NotEq (.lst (f.map D.int)) (.lst []) = some (!decide (f = [])) := by
  have := lst_eq_nil f
  simp only [cmpD] at this ⊢
  rw [this]; rfl
theorem t31a (T : Tb) (t : List Nat) (a : Nat) (m lo hi : Int) (o : Nat) (f : List Int) (x y z w : Slt) (hl : t.length ≤ 100000) (h : ¬ sgnAt t (a + o) = [32]) : evS T [] p31_0 (s31 t a m lo hi o f x y z w) =
    .rt (.tup [.int o, .bl (!decide (f = [])), .tup (f.map D.int)]) 0 (s31 t a m lo hi o f x y z w) := by
  have hsl := slc_mid (l := t) (by omega) (a + o)
  have e : ((a + o : Nat) : Int) = (a : Int) + (o : Int) := by omega
  rw [e] at hsl
  have hadd : ∀ i j : Int, binD .Add (.int i) (.int j) = some (.int (i + j), 0) := fun _ _ => rfl
  have hne : cmpD .NotEq (tx (sgnAt t (a + o))) (.str (Str.ofString " ")) = some true := by
    show cmpD .NotEq (tx (sgnAt t (a + o))) (tx [32]) = _
    rw [tx_ne, decide_eq_false h]; rfl
  have hf := ints_ne_nil f
  simp only [s31]
  generalize sgnAt t (a + o) = s at *
  generalize f.map D.int = F at *
  simp [varO, varF, frzV, tstO, lift_some, bltO, rdOs, rdO, val1, val2, bool0, optI, seqItems, truD, ifsT, bind_ok', then_ok, seq_nx, seq_rt, seq_bk, seq_ct, setO, getO, ipD, mutOk, mutR, LIMv, f_call, p31_0, s31, hadd, hsl, hne, bltD, tup_lst, hf]
theorem t31b (n : Nat) (hn : 30 < n) (t : List Nat) (a : Nat) (m lo hi : Int) (o : Nat) (f : List Int) (x y z w : Slt) (hl : t.length ≤ 100000) (h : sgnAt t (a + o) = [32]) (h2 : ¬ btw (sgnAt t (a + o + 1)) lo hi = true) : evS (sysP.tb n) [] p31_0 (s31 t a m lo hi o f x y z w) =
    .rt (.tup [.int (o + 1 : Nat), .bl false, .non]) 0 (s31 t a m lo hi o f x (some (.int 0, 0)) (some (.bl false, 0)) (some (.non, 0))) := by
  have hsl := slc_mid (l := t) (by omega) (a + o)
  have e : ((a + o : Nat) : Int) = (a : Int) + (o : Int) := by omega
  have e1 : ((a + o + 1 : Nat) : Int) = (a : Int) + (o : Int) + 1 := by omega
  rw [e] at hsl
  have hadd : ∀ i j : Int, binD .Add (.int i) (.int j) = some (.int (i + j), 0) := fun _ _ => rfl
  have hne : cmpD .NotEq (tx [32]) (.str (Str.ofString " ")) = some false := by
    show cmpD .NotEq (tx [32]) (tx [32]) = _
    rw [tx_ne]; rfl
  have hc := fun ρ => call30 (n := n) hn (ρ := ρ) (t := t) (a := a + o + 1) (lo := lo) (hi := hi) hl
  unfold cntOver at hc
  simp only [if_neg h2, e1] at hc
  rw [h] at hsl
  simp only [s31]
  generalize f.map D.int = F at *
  simp [varO, varF, frzV, tstO, lift_some, bltO, rdOs, rdO, val1, val2, bool0, optI, seqItems, truD, ifsT, bind_ok', then_ok, seq_nx, seq_rt, seq_bk, seq_ct, setO, getO, ipD, mutOk, mutR, LIMv, f_call, p31_0, hadd, hsl, hne, io30, hc]
theorem t31c (n : Nat) (hn : 30 < n) (t : List Nat) (a : Nat) (m lo hi : Int) (o : Nat) (f : List Int) (x y z w : Slt) (hl : t.length ≤ 100000) (hf : f.length ≤ 100000) (h : sgnAt t (a + o) = [32]) (h2 : btw (sgnAt t (a + o + 1)) lo hi = true) : ∃ y' z' w', evS (sysP.tb n) [] p31_0 (s31 t a m lo hi o f x y z w) =
    .nx (s31 t a m lo hi (o + 2) (f ++ [((sgnAt t (a + o + 1)).headD 0 : Int) - 48]) x y' z' w') := by
  have hsl := slc_mid (l := t) (by omega) (a + o)
  have e : ((a + o : Nat) : Int) = (a : Int) + (o : Int) := by omega
  have e1 : ((a + o + 1 : Nat) : Int) = (a : Int) + (o : Int) + 1 := by omega
  rw [e] at hsl
  have hadd : ∀ i j : Int, binD .Add (.int i) (.int j) = some (.int (i + j), 0) := fun _ _ => rfl
  have hne : cmpD .NotEq (tx [32]) (.str (Str.ofString " ")) = some false := by
    show cmpD .NotEq (tx [32]) (tx [32]) = _
    rw [tx_ne]; rfl
  have hc := fun ρ => call30 (n := n) hn (ρ := ρ) (t := t) (a := a + o + 1) (lo := lo) (hi := hi) hl
  unfold cntOver at hc
  simp only [if_pos h2, e1] at hc
  rw [h] at hsl
  have k : (f.map D.int).length < 16777216 := by rw [List.length_map]; omega
  have hm : (f ++ [((sgnAt t (a + o + 1)).headD 0 : Int) - 48]).map D.int = f.map D.int ++ [.int (((sgnAt t (a + o + 1)).headD 0 : Int) - 48)] := by rw [List.map_append]; rfl
  refine ⟨some (.int 1, 0), some (.bl true, 0), some (.int (((sgnAt t (a + o + 1)).headD 0 : Int) - 48), 0), ?_⟩
  simp only [s31]
  rw [hm]
  generalize ((sgnAt t (a + o + 1)).headD 0 : Int) - 48 = c at *
  generalize f.map D.int = F at *
  simp [varO, varF, frzV, tstO, lift_some, bltO, rdOs, rdO, val1, val2, bool0, optI, seqItems, truD, ifsT, bind_ok', then_ok, seq_nx, seq_rt, seq_bk, seq_ct, setO, getO, ipD, mutOk, mutR, LIMv, f_call, p31_0, s31, hadd, hsl, hne, io30, hc, mutD, appendD, k]
theorem l31 (n : Nat) (hn : 30 < n) (t : List Nat) (a : Nat) (m lo hi : Int) (hl : t.length ≤ 100000) : ∀ (k j : Nat) (f : List Int) (o : Nat) (x y z w : Slt), f.length + k ≤ 1000 → ∃ o' f' x' y' z' w', (forLoop (bindT [] (.nm 7)) (evS (sysP.tb n) [] p31_0) ((List.range' j k).map fun i : Nat => D.int ((i : Nat) : Int)) (s31 t a m lo hi o f x y z w)).seq (evS (sysP.tb n) [] B31) =
    .rt (rowOv t a lo hi k f o) 0 (s31 t a m lo hi o' f' x' y' z' w')
  | 0, j, f, o, x, y, z, w, _ => by
    refine ⟨o, f, x, y, z, w, ?_⟩
    simp only [List.range'_zero, List.map_nil, forLoop, seq_nx, rowOv, s31]
    generalize f.map D.int = F
    simp [varO, varF, frzV, tstO, lift_some, bltO, rdOs, rdO, val1, val2, bool0, optI, seqItems, truD, ifsT, bind_ok', then_ok, seq_nx, seq_rt, seq_bk, seq_ct, setO, getO, ipD, mutOk, mutR, LIMv, f_call, B31, bltD, tup_lst]
  | k + 1, j, f, o, x, y, z, w, hf => by
    have hbd : bindT [] (.nm 7) (.int (j : Int)) (s31 t a m lo hi o f x y z w) = some (s31 t a m lo hi o f (some (.int j, 0)) y z w) := by simp [bindT, s31]
    simp only [List.range'_succ, List.map_cons, forLoop, hbd, rowOv]
    by_cases h : sgnAt t (a + o) = [32]
    · by_cases h2 : btw (sgnAt t (a + o + 1)) lo hi = true
      · obtain ⟨y', z', w', h3⟩ := t31c n hn t a m lo hi o f (some (.int j, 0)) y z w hl (by omega) h h2
        obtain ⟨o1, f1, x1, y1, z1, w1, ih⟩ := l31 n hn t a m lo hi hl k (j + 1) (f ++ [((sgnAt t (a + o + 1)).headD 0 : Int) - 48]) (o + 2) (some (.int j, 0)) y' z' w' (by simp only [List.length_append, List.length_cons, List.length_nil]; omega)
        refine ⟨o1, f1, x1, y1, z1, w1, ?_⟩
        simp only [h3, if_pos h, if_pos h2]
        exact ih
      · refine ⟨o, f, some (.int j, 0), some (.int 0, 0), some (.bl false, 0), some (.non, 0), ?_⟩
        simp only [t31b n hn t a m lo hi o f (some (.int j, 0)) y z w hl h h2, if_pos h, if_neg h2, seq_rt]
    · refine ⟨o, f, some (.int j, 0), y, z, w, ?_⟩
      simp only [t31a (sysP.tb n) t a m lo hi o f (some (.int j, 0)) y z w hl h, if_neg h, seq_rt]
/-- _law_row_over -/
theorem r31 (n : Nat) (hn : 30 < n) (t : List Nat) (a m : Nat) (lo hi : Int) (hl : t.length ≤ 100000) (hm : m ≤ 100) : runDef (sysP.tb n) d31 [tx t, .int a, .int m, .int lo, .int hi] = .ok (rowOv t a lo hi m [] 0) 0 [none, none, none, none, none] := by
  have hps : d31.ps = [] := rfl
  have e : startR d31 [tx t, .int a, .int m, .int lo, .int hi] = [some (tx t, 0), some (.int a, 0), some (.int m, 0), some (.int lo, 0), some (.int hi, 0), none, none, none, none, none, none] := rfl
  have hseq : ∀ x y ρ, evS (sysP.tb n) [] (.seq x y) ρ = (evS (sysP.tb n) [] x ρ).seq (evS (sysP.tb n) [] y) := fun _ _ _ => rfl
  have hbody : d31.body = .seq (.par [5, 6] (.cons (.int 0) (.cons (.lst .nil) .nil))) (.seq (.for_ (.nm 7) (.rg1 (.var 2)) p31_0) B31) := rfl
  have h1 : evS (sysP.tb n) [] (.par [5, 6] (.cons (.int 0) (.cons (.lst .nil) .nil))) [some (tx t, 0), some (.int a, 0), some (.int m, 0), some (.int lo, 0), some (.int hi, 0), none, none, none, none, none, none] = .nx (s31 t a m lo hi 0 [] none none none none) := by
    simp [varO, varF, frzV, tstO, lift_some, bltO, rdOs, rdO, val1, val2, bool0, optI, seqItems, truD, ifsT, bind_ok', then_ok, seq_nx, seq_rt, seq_bk, seq_ct, setO, getO, ipD, mutOk, mutR, LIMv, f_call, s31, parT]
  have hit : (ev (sysP.tb n) [] (.rg1 (.var 2))).it (s31 t a m lo hi 0 [] none none none none) = .ok ((List.range' 0 m).map fun i : Nat => D.int ((i : Nat) : Int)) (s31 t a m lo hi 0 [] none none none none) :=
    rg1_it (l := 0) rfl (by rw [LIMv]; omega)
  obtain ⟨o', f', x', y', z', w', h2⟩ := l31 n hn t a m lo hi hl m 0 [] 0 none none none none (by simp; omega)
  rw [runDef_eq rfl, hps, e, hbody, hseq, h1, seq_nx, hseq]
  have h3 : evS (sysP.tb n) [] (.for_ (.nm 7) (.rg1 (.var 2)) p31_0) (s31 t a m lo hi 0 [] none none none none) = forLoop (bindT [] (.nm 7)) (evS (sysP.tb n) [] p31_0) ((List.range' 0 m).map fun i : Nat => D.int ((i : Nat) : Int)) (s31 t a m lo hi 0 [] none none none none) := by
    show ((ev (sysP.tb n) [] (.rg1 (.var 2))).it _).then _ = _
    rw [hit, then_ok]
  rw [h3, h2]
  rfl
/-! the law's row and the program's -/
theorem run_head {t : List Nat} {a : Nat} : (restRun t a).take 1 = match sgnAt t a with
    | [c] => if al c then [c] else []
    | _ => [] := by
  unfold restRun sgnAt
  cases t.drop a with
  | nil => rfl
  | cons c r =>
    simp only [List.takeWhile_cons, List.take_succ_cons, List.take_zero]
    cases al c <;> simp
theorem digs_al : ∀ c ∈ digs, al c = true := by decide +kernel
theorem cntOk_eq (t : List Nat) (a : Nat) (lo hi : Int) : cntOk t a lo hi = btw (sgnAt t a) lo hi := by
  unfold cntOk
  rw [run_head]
  have hlen := sgnAt_len t a
  generalize sgnAt t a = s at hlen ⊢
  match s, hlen with
  | [], _ => rfl
  | [c], _ =>
    show btw (if al c = true then [c] else []) lo hi = _
    cases h : al c with
    | true => rfl
    | false =>
      have : ¬ c ∈ digs := fun z => by rw [digs_al c z] at h; cases h
      simp [btw, this]
theorem head_eq {t : List Nat} {a : Nat} {lo hi : Int} (h : btw (sgnAt t a) lo hi = true) : (restRun t a).headD 0 = (sgnAt t a).headD 0 := by
  obtain ⟨c, h1, h2⟩ := btw_one h
  have h3 := run_head (t := t) (a := a)
  rw [h1] at h3
  simp only [digs_al c h2, if_true] at h3
  rw [h1]
  cases hR : restRun t a with
  | nil => rw [hR] at h3; cases h3
  | cons d r => rw [hR] at h3; simp at h3; simp [h3]
/-- a number, as the law has it -/
theorem cnt_law (t : List Nat) (a : Nat) (lo hi : Int) : cntGo t a true lo hi = if btw (sgnAt t a) lo hi = true then (((sgnAt t a).headD 0 : Int) - 48, a + 1, true) else (0, a, false) := by
  unfold cntGo
  rw [cntOk_eq]
  by_cases h : btw (sgnAt t a) lo hi = true
  · rw [if_pos ⟨rfl, h⟩, if_pos h, head_eq h]
  · rw [if_neg (fun z => h z.2), if_neg h]
theorem cnt_bad (t : List Nat) (a : Nat) (lo hi : Int) : cntGo t a false lo hi = (0, a, false) := by
  unfold cntGo; rw [if_neg (fun z => nomatch z.1)]
theorem row_bad (t : List Nat) (lo hi : Int) : ∀ (k : Nat) (f : List Int) (a : Nat), rowGo t lo hi k f a false = (f, a, false)
  | 0, f, a => rfl
  | k + 1, f, a => by unfold rowGo rowT; rfl
theorem row_law (t : List Nat) (a : Nat) (lo hi : Int) : ∀ (k : Nat) (f : List Int) (o : Nat), ∃ o' good v, rowOv t a lo hi k f o = .tup [.int (o' : Nat), .bl good, v] ∧ (rowGo t lo hi k f (a + o) true).2 = (a + o', good) ∧ (good = true → v = .tup ((rowGo t lo hi k f (a + o) true).1.map D.int))
  | 0, f, o => ⟨o, true, _, rfl, rfl, fun _ => rfl⟩
  | k + 1, f, o => by
    unfold rowOv rowGo
    by_cases h : sgnAt t (a + o) = [32]
    · have hT : rowT t f (a + o) true = true := by simp [rowT, h]
      have hA : rowA t (a + o) true lo hi = cntGo t (a + o + 1) true lo hi := by
        unfold rowA
        simp [wordGo, h]
      rw [if_pos h, if_pos hT, hA, cnt_law]
      by_cases h2 : btw (sgnAt t (a + o + 1)) lo hi = true
      · rw [if_pos h2, if_pos h2]
        exact row_law t a lo hi k _ (o + 2)
      · rw [if_neg h2, if_neg h2]
        simp only [row_bad]
        exact ⟨o + 1, false, _, rfl, rfl, fun z => nomatch z⟩
    · rw [if_neg h]
      by_cases hf : f = []
      · have hT : rowT t f (a + o) true = true := by simp [rowT, hf]
        have hA : rowA t (a + o) true lo hi = (0, a + o, false) := by
          unfold rowA
          simp [wordGo, h, cnt_bad]
        rw [if_pos hT, hA]
        simp only [row_bad]
        exact ⟨o, false, .tup (f.map D.int), by simp [hf], rfl, fun z => nomatch z⟩
      · have hT : rowT t f (a + o) true = false := by simp [rowT, hf, h]
        rw [hT]
        exact ⟨o, true, _, by simp [hf], rfl, fun _ => rfl⟩
end EvL
end
section
set_option Elab.async false
set_option linter.all false
set_option maxRecDepth 100000
set_option maxHeartbeats 4000000
namespace EvL
open PySem PySem.Spec L2 Ev
theorem run28 {n : Nat} (h : 28 < n) : (sysP.tb n).run 28 = runDef (sysP.tb 28) d28 := runP h rfl
theorem io28 (n : Nat) : (sysP.tb n).io 28 = [false, false] := ioP (d := d28) rfl
theorem call28 {n : Nat} (hn : 28 < n) {ρ : Rho} {t : List Nat} {a : Nat} (hl : t.length ≤ 100000) (hp : Pl t) : callR (sysP.tb n) 28 [.v (tx t), .v (.int a)] ρ = .ok (nmOver t a, 0) ρ :=
  call_ok (io28 n) rfl rfl ((congrFun (run28 hn) _).trans (r28 _ (by omega) t a hl hp)) rfl
theorem run29 {n : Nat} (h : 29 < n) : (sysP.tb n).run 29 = runDef (sysP.tb 29) d29 := runP h rfl
theorem io29 (n : Nat) : (sysP.tb n).io 29 = [false, false, false] := ioP (d := d29) rfl
theorem call29 {n : Nat} (hn : 29 < n) {ρ : Rho} {t : List Nat} {a : Nat} {ws : List (List Nat)} (hl : t.length ≤ 100000) (hw : ∀ w ∈ ws, w.length ≤ 100000) : callR (sysP.tb n) 29 [.v (tx t), .v (.int a), .v (.tup (ws.map tx))] ρ = .ok (oneOver t a ws, 0) ρ :=
  call_ok (io29 n) rfl rfl ((congrFun (run29 hn) _).trans (r29 _ (by omega) t a ws hl hw)) rfl
theorem run31 {n : Nat} (h : 31 < n) : (sysP.tb n).run 31 = runDef (sysP.tb 31) d31 := runP h rfl
theorem io31 (n : Nat) : (sysP.tb n).io 31 = [false, false, false, false, false] := ioP (d := d31) rfl
theorem call31 {n : Nat} (hn : 31 < n) {ρ : Rho} {t : List Nat} {a m : Nat} {lo hi : Int} (hl : t.length ≤ 100000) (hm : m ≤ 100) : callR (sysP.tb n) 31 [.v (tx t), .v (.int a), .v (.int m), .v (.int lo), .v (.int hi)] ρ = .ok (rowOv t a lo hi m [] 0, 0) ρ :=
  call_ok (io31 n) rfl rfl ((congrFun (run31 hn) _).trans (r31 _ (by omega) t a m lo hi hl hm)) rfl
/-- a tuple with one thing more -/
def snoc : D → List D → D
  | .tup ds, es => .tup (ds ++ es)
  | d, _ => d
/-- _law_taken: what it gives -/
def Act.tk (t : List Nat) (a : Nat) : Act → D
  | .word w => .tup [.int (shareGo t w a), .bl (decide (shareGo t w a = w.length)), .non, .bl false]
  | .name => snoc (nmOver t a) [.bl true]
  | .one v vs => snoc (oneOver t a (v :: vs)) [.bl true]
  | .count lo hi => snoc (cntOver t a lo hi) [.bl true]
  | .row m lo hi => snoc (rowOv t a lo hi m [] 0) [.bl true]
  | .fin => .tup [.int 0, .bl (decide (a = t.length)), .non, .bl false]
theorem rowOv_tup (t : List Nat) (a : Nat) (lo hi : Int) : ∀ (k : Nat) (f : List Int) (o : Nat), ∃ x y z, rowOv t a lo hi k f o = .tup [x, y, z]
  | 0, f, o => ⟨_, _, _, rfl⟩
  | k + 1, f, o => by
    unfold rowOv
    split
    · split
      · exact rowOv_tup t a lo hi k _ _
      · exact ⟨_, _, _, rfl⟩
    · exact ⟨_, _, _, rfl⟩
theorem cntOver_tup (t : List Nat) (a : Nat) (lo hi : Int) : ∃ x y z, cntOver t a lo hi = .tup [x, y, z] := by
  unfold cntOver
  split <;> exact ⟨_, _, _, rfl⟩
theorem cat3 (x y z w : D) : binD .Add (.tup [x, y, z]) (.tup [w]) = some (.tup [x, y, z, w], 0) := rfl
theorem cat2 (x y z w : D) : binD .Add (.tup [x, y]) (.tup [z, w]) = some (.tup [x, y, z, w], 0) := rfl
theorem r32 (n : Nat) (hn : 31 < n) (t : List Nat) (a : Nat) (x : Act) (hl : t.length ≤ 100000) (hp : Pl t) (hx : x.ok) (hw : ∀ w, x = .word w → w.length ≤ 100000) : runDef (sysP.tb n) d32 [tx t, .int a, x.d] = .ok (x.tk t a) 0 [none, none, none] := by
  have hps : d32.ps = [] := rfl
  have e : ∀ y, startR d32 [tx t, .int a, y] = [some (tx t, 0), some (.int a, 0), some (y, 0), none] := fun _ => rfl
  rw [runDef_eq rfl, hps, e]
  cases x with
  | word w =>
    have hc := fun ρ => call26 (n := n) (by omega) (ρ := ρ) (t := t) (w := w) (a := a) hl (hw w rfl)
    simp only [Act.d, Act.tk]
    generalize shareGo t w a = s at *
    simp [varO, varF, frzV, tstO, lift_some, bltO, rdOs, rdO, val1, val2, bool0, optI, seqItems, truD, ifsT, bind_ok', then_ok, seq_nx, seq_rt, seq_bk, seq_ct, setO, getO, ipD, mutOk, mutR, LIMv, f_call, d32, ixD, atI, ixN, q_word_word, io26, hc, cat2, finR, maskR]
  | name =>
    have hc := fun ρ => call28 (n := n) (by omega) (ρ := ρ) (t := t) (a := a) hl hp
    simp only [Act.d, Act.tk]
    unfold nmOver at *
    generalize nmO t a = s at *
    generalize nmW t a = s at *
    simp [varO, varF, frzV, tstO, lift_some, bltO, rdOs, rdO, val1, val2, bool0, optI, seqItems, truD, ifsT, bind_ok', then_ok, seq_nx, seq_rt, seq_bk, seq_ct, setO, getO, ipD, mutOk, mutR, LIMv, f_call, d32, ixD, atI, ixN, q_name_word, q_name_name, io28, hc, cat3, snoc, finR, maskR]
  | one v vs =>
    have hc := fun ρ => call29 (n := n) (by omega) (ρ := ρ) (t := t) (a := a) (ws := v :: vs) hl hx.1
    simp only [Act.d, Act.tk]
    unfold oneOver at *
    generalize maxI (shs t a (v :: vs)) 0 = s at *
    generalize toldGo t a (v :: vs) none = s at *
    generalize (v :: vs).map tx = W at *
    simp [varO, varF, frzV, tstO, lift_some, bltO, rdOs, rdO, val1, val2, bool0, optI, seqItems, truD, ifsT, bind_ok', then_ok, seq_nx, seq_rt, seq_bk, seq_ct, setO, getO, ipD, mutOk, mutR, LIMv, f_call, d32, ixD, atI, ixN, q_one_word, q_one_name, q_one_one, io29, hc, cat3, snoc, finR, maskR]
  | count lo hi =>
    have hc := fun ρ => call30 (n := n) (by omega) (ρ := ρ) (t := t) (a := a) (lo := lo) (hi := hi) hl
    simp only [Act.d, Act.tk]
    obtain ⟨x, y, z, hq⟩ := cntOver_tup t a lo hi
    rw [hq] at hc ⊢
    simp [varO, varF, frzV, tstO, lift_some, bltO, rdOs, rdO, val1, val2, bool0, optI, seqItems, truD, ifsT, bind_ok', then_ok, seq_nx, seq_rt, seq_bk, seq_ct, setO, getO, ipD, mutOk, mutR, LIMv, f_call, d32, ixD, atI, ixN, q_count_word, q_count_name, q_count_one, q_count_count, io30, hc, cat3, snoc, finR, maskR]
  | row m lo hi =>
    have hc := fun ρ => call31 (n := n) (by omega) (ρ := ρ) (t := t) (a := a) (m := m) (lo := lo) (hi := hi) hl hx
    simp only [Act.d, Act.tk]
    obtain ⟨x, y, z, hq⟩ := rowOv_tup t a lo hi m [] 0
    rw [hq] at hc ⊢
    simp [varO, varF, frzV, tstO, lift_some, bltO, rdOs, rdO, val1, val2, bool0, optI, seqItems, truD, ifsT, bind_ok', then_ok, seq_nx, seq_rt, seq_bk, seq_ct, setO, getO, ipD, mutOk, mutR, LIMv, f_call, d32, ixD, atI, ixN, q_row_word, q_row_name, q_row_one, q_row_count, q_row_row, io31, hc, cat3, snoc, finR, maskR]
  | fin =>
    have hlen := len_tx (l := t) (by omega)
    have hb1 : ∀ d, blt1 .len d = lenD d := fun _ => rfl
    have heq : cmpD .Eq (.int (a : Int)) (.int (t.length : Int)) = some (decide (a = t.length)) := by
      have : ((a : Int) = (t.length : Int)) = (a = t.length) := propext ⟨fun h => by omega, fun h => by omega⟩
      rw [int_eq]; simp only [this]
    simp only [Act.d, Act.tk]
    simp [varO, varF, frzV, tstO, lift_some, bltO, rdOs, rdO, val1, val2, bool0, optI, seqItems, truD, ifsT, bind_ok', then_ok, seq_nx, seq_rt, seq_bk, seq_ct, setO, getO, ipD, mutOk, mutR, LIMv, f_call, d32, ixD, atI, ixN, q_end_word, q_end_name, q_end_one, q_end_count, q_end_row, bltD, hb1, hlen, heq, finR, maskR]
/-! the law's taking and the scan's -/
def Act.pf : Act → Prop
  | .one v vs => PF (v :: vs)
  | _ => True
theorem word_bad (t : List Nat) (w : List Nat) (hw : w ≠ []) (a : Nat) : wordGo t w a false = (a, false) := by
  cases w with
  | nil => exact absurd rfl hw
  | cons c w => unfold wordGo; rw [if_neg (fun z => nomatch z.1)]
def Act.ne : Act → Prop
  | .word w => w ≠ []
  | .one v vs => ∀ w ∈ v :: vs, w ≠ []
  | _ => True
theorem go_bad (t : List Nat) (a : Nat) (x : Act) (hx : x.ne) : (x.go t a false).2 = (a, false) := by
  cases x with
  | word w => exact word_bad t w hx a
  | name => unfold Act.go nameGo; rw [if_pos (.inl rfl)]
  | one v vs => exact word_bad t _ (hx _ (one_mem t a v vs).1) a
  | count lo hi => simp only [Act.go, cnt_bad]
  | row m lo hi => simp only [Act.go, row_bad]
  | fin => rfl
def Act.shown : Act → Bool
  | .word _ => false
  | .fin => false
  | _ => true
theorem go_law (t : List Nat) (a : Nat) (x : Act) (hx : x.pf) : ∃ (o : Nat) (good shown : Bool) (v : D), x.tk t a = .tup [.int o, .bl good, v, .bl shown] ∧ (x.go t a true).2 = (a + o, good) ∧ (good = true → shown = true → (x.go t a true).1 = v) ∧ (shown = false → v = .non) ∧ shown = x.shown := by
  cases x with
  | word w =>
    refine ⟨_, _, _, _, rfl, ?_, (fun _ h => by cases h), (fun _ => rfl), rfl⟩
    exact word_share t w a
  | name =>
    obtain ⟨h1, h2⟩ := name_law t a
    refine ⟨_, _, _, _, rfl, h1, fun hg _ => ?_, (fun h => by cases h), rfl⟩
    have : (nameGo t a true).2.2 = true := by rw [h1]; exact hg
    show tx _ = tx _
    rw [h2 this]
  | one v vs =>
    obtain ⟨h1, h2⟩ := one_law t a v vs hx
    simp only [Act.tk, oneOver, snoc, Act.go, h1, h2]
    generalize oneAt t a (v :: vs) = o
    rw [word_share]
    by_cases h : shareGo t o a = o.length
    · rw [if_pos h]
      refine ⟨_, _, _, _, rfl, by simp [h], fun _ _ => rfl, (fun h => by cases h), rfl⟩
    · rw [if_neg h]
      refine ⟨_, _, _, _, rfl, by simp [h], (fun z => by cases z), (fun h => by cases h), rfl⟩
  | count lo hi =>
    simp only [Act.tk, cntOver, Act.go, cnt_law]
    by_cases h : btw (sgnAt t a) lo hi = true
    · rw [if_pos h, if_pos h]
      exact ⟨1, _, _, _, rfl, rfl, fun _ _ => rfl, (fun h => by cases h), rfl⟩
    · rw [if_neg h, if_neg h]
      exact ⟨0, _, _, _, rfl, rfl, (fun z => by cases z), (fun h => by cases h), rfl⟩
  | row m lo hi =>
    obtain ⟨o, g, v, h1, h2, h3⟩ := row_law t a lo hi m [] 0
    simp only [Act.tk, h1, snoc, Act.go]
    refine ⟨o, g, true, v, rfl, h2, fun hg _ => (h3 hg).symm, (fun h => by cases h), rfl⟩
  | fin => exact ⟨0, _, _, _, rfl, rfl, (fun _ h => by cases h), (fun _ => rfl), rfl⟩
end EvL
end
section
set_option Elab.async false
set_option linter.all false
set_option maxRecDepth 100000
set_option maxHeartbeats 4000000
namespace EvL
open PySem PySem.Spec L2 Ev
/-- a value that repr can tell -/
def Fine (d : D) : Prop := okAt 50 d = true ∧ (py d).showable = true ∧ szD d ≤ 1000000
mutual
theorem okAt_mono : ∀ (n m : Nat) (d : D), n ≤ m → okAt n d = true → okAt m d = true
  | n, m, .non, _, _ => by cases m <;> rfl
  | n, m, .bl _, _, _ => by cases m <;> rfl
  | n, m, .int _, _, _ => by cases m <;> rfl
  | n, m, .str x, _, h => by
    have h : PyData.strOk x = true := by cases n <;> exact h
    cases m <;> exact h
  | 0, m, .tup ds, _, h => by simp [okAt] at h
  | n + 1, m + 1, .tup ds, hm, h => by
    simp only [okAt] at h ⊢
    exact okAll_mono n m ds (by omega) h
  | n + 1, 0, .tup ds, hm, h => by omega
  | 0, m, .lst ds, _, h => by simp [okAt] at h
  | n + 1, m + 1, .lst ds, hm, h => by
    simp only [okAt] at h ⊢
    exact okAll_mono n m ds (by omega) h
  | n + 1, 0, .lst ds, hm, h => by omega
  | n, _, .dic _, _, h => by cases n <;> simp [okAt] at h
  | n, _, .fn _, _, h => by cases n <;> simp [okAt] at h
  | n, _, .ins _ _, _, h => by cases n <;> simp [okAt] at h
  | n, _, .scr _, _, h => by cases n <;> simp [okAt] at h
theorem okAll_mono : ∀ (n m : Nat) (ds : List D), n ≤ m → okAll n ds = true → okAll m ds = true
  | n, m, [], _, _ => by simp only [okAll]
  | n, m, d :: ds, hm, h => by
    simp only [okAll, Bool.and_eq_true] at h ⊢
    exact ⟨okAt_mono n m d hm h.1, okAll_mono n m ds hm h.2⟩
end
theorem okAll_of {n : Nat} : ∀ {ds : List D}, (∀ d ∈ ds, okAt n d = true) → okAll n ds = true
  | [], _ => by simp only [okAll]
  | d :: ds, h => by
    simp only [okAll, Bool.and_eq_true]
    exact ⟨h d List.mem_cons_self, okAll_of fun x hx => h x (List.mem_cons_of_mem _ hx)⟩
theorem show_of : ∀ {ds : List D}, (∀ d ∈ ds, (py d).showable = true) → PyData.showableAll (pys ds) = true
  | [], _ => by simp only [pys, PyData.showableAll]
  | d :: ds, h => by
    simp only [pys, PyData.showableAll, Bool.and_eq_true]
    exact ⟨h d List.mem_cons_self, show_of fun x hx => h x (List.mem_cons_of_mem _ hx)⟩
theorem szL_of {k : Nat} : ∀ {ds : List D}, (∀ d ∈ ds, szD d ≤ k) → szL ds ≤ ds.length * (k + 2)
  | [], _ => by simp [szL]
  | d :: ds, h => by
    have h1 := h d List.mem_cons_self
    have h2 := szL_of (k := k) (ds := ds) fun x hx => h x (List.mem_cons_of_mem _ hx)
    simp only [szL, List.length_cons, Nat.succ_mul]
    omega
/-- plain: a text, a small number, None, a truth -/
def Leaf (d : D) : Prop := okAt 0 d = true ∧ (py d).showable = true ∧ szD d ≤ 1921
theorem leaf_non : Leaf .non := by unfold Leaf; refine ⟨rfl, rfl, by simp [szD]⟩
theorem leaf_bl (b : Bool) : Leaf (.bl b) := by unfold Leaf; refine ⟨rfl, rfl, by simp [szD]⟩
theorem leaf_int {i : Int} (h : i.natAbs < 2 ^ 200) : Leaf (.int i) := by
  refine ⟨rfl, ?_, by simp [szD]⟩
  simp only [py, PyData.showable, decide_eq_true_eq]
  by_cases h0 : i.natAbs = 0
  · rw [h0]; decide
  · have := (Nat.log2_lt h0 (k := 200)).mpr h
    omega
theorem small_lt {k : Nat} (h : k < 1000000000) : k < 2 ^ 200 :=
  Nat.lt_trans h (Nat.lt_of_lt_of_le (by decide : 1000000000 < 2 ^ 30) (Nat.pow_le_pow_right (by decide) (by decide)))
theorem leaf_tx {l : List Nat} (h : Pl l) (hl : l.length ≤ 190) : Leaf (tx l) := by
  refine ⟨okD_tx h, rfl, ?_⟩
  show 10 * (st l).length + 2 ≤ _
  rw [st_len]; omega
theorem fine_leaf {d : D} (h : Leaf d) : Fine d := ⟨okAt_mono 0 50 d (by omega) h.1, h.2.1, by have := h.2.2; omega⟩
theorem fine_tup {ds : List D} (h : ∀ d ∈ ds, Leaf d) (hl : ds.length ≤ 100) : Fine (.tup ds) := by
  refine ⟨?_, ?_, ?_⟩
  · simp only [okAt]
    exact okAll_of fun d hd => okAt_mono 0 49 d (by omega) (h d hd).1
  · simp only [py, PyData.showable]
    exact show_of fun d hd => (h d hd).2.1
  · simp only [szD]
    have := szL_of (k := 1921) fun d hd => (h d hd).2.2
    have h2 := Nat.mul_le_mul_right (1921 + 2) hl
    omega
theorem fine_tx {l : List Nat} (h : Pl l) (hl : l.length ≤ 1000) : Fine (tx l) := by
  refine ⟨okD_tx h, rfl, ?_⟩
  show 10 * (st l).length + 2 ≤ _
  rw [st_len]; omega
/-- _law_alike -/
theorem r33 (T : Tb) (d : D) (h : okD d = true) (h2 : (py d).showable = true) (h3 : szD d ≤ LIM) : runDef T d33 [d, d] = .ok (.bl true) 0 [none, none] := by
  have hps : d33.ps = [] := rfl
  have e : startR d33 [d, d] = [some (d, 0), some (d, 0)] := rfl
  have hr : blt1 .repr d = some (.str (py d).shown, 0) := reprD_ok h h2 h3
  have hs : cmpD .Eq d d = some true := eqE_self h
  have ht : ∀ s : Str, cmpD .Eq (.str s) (.str s) = some true := fun s => by simp [cmpD, eqE]
  rw [runDef_eq rfl, hps, e]
  generalize (py d).shown = s at hr
  simp [varO, varF, frzV, tstO, lift_some, bltO, rdOs, rdO, val1, val2, bool0, optI, seqItems, truD, ifsT, bind_ok', then_ok, seq_nx, seq_rt, seq_bk, seq_ct, setO, getO, ipD, mutOk, mutR, LIMv, f_call, d33, bltD, hr, ht, hs, finR, maskR]
theorem run33 {n : Nat} (h : 33 < n) : (sysP.tb n).run 33 = runDef (sysP.tb 33) d33 := runP h rfl
theorem io33 (n : Nat) : (sysP.tb n).io 33 = [false, false] := ioP (d := d33) rfl
theorem call33 {n : Nat} (hn : 33 < n) {ρ : Rho} {d : D} (h : okD d = true) (h2 : (py d).showable = true) (h3 : szD d ≤ LIM) : callR (sysP.tb n) 33 [.v d, .v d] ρ = .ok (.bl true, 0) ρ :=
  call_ok (io33 n) rfl rfl ((congrFun (run33 hn) _).trans (r33 _ d h h2 h3)) rfl
theorem Fine.call {n : Nat} (hn : 33 < n) {d : D} (h : Fine d) (ρ : Rho) : callR (sysP.tb n) 33 [.v d, .v d] ρ = .ok (.bl true, 0) ρ :=
  call33 hn (okAt_mono 50 60 d (by omega) h.1) h.2.1 (Nat.le_trans h.2.2 (by rw [LIMv]; omega))
/-! what an act gives can be told -/
def Act.good (x : Act) : Prop := x.ok ∧ x.pf ∧ x.ne ∧ match x with
  | .word w => w.length ≤ 100 ∧ Pl w
  | .one v vs => ∀ w ∈ v :: vs, w.length ≤ 100 ∧ Pl w
  | _ => True
theorem digs_sub : ∀ c ∈ digs, 48 ≤ c ∧ c ≤ 57 := by decide +kernel
theorem cnt_small (t : List Nat) (a : Nat) (g : Bool) (lo hi : Int) : 0 ≤ (cntGo t a g lo hi).1 ∧ (cntGo t a g lo hi).1 ≤ 9 := by
  cases g with
  | false => rw [cnt_bad]; simp
  | true =>
    rw [cnt_law]
    split
    · rename_i h
      obtain ⟨c, h1, h2⟩ := btw_one h
      rw [h1]
      have := digs_sub c h2
      simp only [List.headD_cons]
      omega
    · simp
theorem row_small (t : List Nat) (lo hi : Int) : ∀ (k : Nat) (f : List Int) (a : Nat) (g : Bool), (∀ i ∈ f, 0 ≤ i ∧ i ≤ 9) → (∀ i ∈ (rowGo t lo hi k f a g).1, 0 ≤ i ∧ i ≤ 9) ∧ (rowGo t lo hi k f a g).1.length ≤ f.length + k
  | 0, f, a, g, h => ⟨h, Nat.le_refl _⟩
  | k + 1, f, a, g, h => by
    unfold rowGo
    split
    · have h1 := row_small t lo hi k (f ++ [(rowA t a g lo hi).1]) (rowA t a g lo hi).2.1 (rowA t a g lo hi).2.2 (by
        intro i hi'
        rcases List.mem_append.mp hi' with h' | h'
        · exact h i h'
        · rw [List.mem_singleton.mp h']
          exact cnt_small t _ _ lo hi)
      refine ⟨h1.1, ?_⟩
      have := h1.2
      simp only [List.length_append, List.length_cons, List.length_nil] at this
      omega
    · exact ⟨h, by show f.length ≤ _; omega⟩
theorem nameGo_fine (t : List Nat) (a : Nat) (g : Bool) : Leaf (tx (nameGo t a g).1) := by
  unfold nameGo
  split
  · exact leaf_tx (fun _ h => nomatch h) (by simp)
  · refine leaf_tx (fun c hc => restRun_pl t a c (List.mem_of_mem_take hc)) ?_
    have := List.length_take_le 8 (restRun t a)
    show ((restRun t a).take 8).length ≤ 190
    omega
theorem leaf_dig {i : Int} (h : 0 ≤ i ∧ i ≤ 9) : Leaf (.int i) := leaf_int (small_lt (by omega))
theorem go_fine (t : List Nat) (a : Nat) (g : Bool) (x : Act) (hx : x.good) : Fine (x.go t a g).1 := by
  cases x with
  | word w => exact fine_leaf leaf_non
  | name => exact fine_leaf (nameGo_fine t a g)
  | one v vs =>
    obtain ⟨h1, h2⟩ := hx.2.2.2 _ (one_mem t a v vs).1
    exact fine_leaf (leaf_tx h2 (by omega))
  | count lo hi => exact fine_leaf (leaf_dig (cnt_small t a g lo hi))
  | row m lo hi =>
    have h := row_small t lo hi m [] a g (fun _ h => nomatch h)
    refine fine_tup (fun d hd => ?_) ?_
    · obtain ⟨i, hi', rfl⟩ := List.mem_map.mp hd
      exact leaf_dig (h.1 i hi')
    · rw [List.length_map]
      have h2 : m ≤ 100 := hx.1
      have := h.2
      simp only [List.length_nil] at this
      omega
  | fin => exact fine_leaf leaf_non
/-! joined texts -/
theorem joinL_nil : ∀ ys : List (List Nat), TL.joinL [] ys = ys.flatten
  | [] => rfl
  | [p] => by simp [TL.joinL]
  | p :: q :: r => by
    show p ++ ([] ++ TL.joinL [] (q :: r)) = _
    rw [joinL_nil (q :: r)]; simp
theorem join_st (ys : List (List Nat)) : Txt.join (Str.ofString "") (ys.map st) = st ys.flatten := by
  have := SX.join_S [] ys
  rw [joinL_nil] at this
  exact this
theorem isStrs_tx : ∀ ys : List (List Nat), isStrs (ys.map tx) = some (ys.map st)
  | [] => rfl
  | y :: ys => by simp [isStrs, tx, isStrs_tx ys]
theorem join_tx {ys : List (List Nat)} {k : Nat} (h : ∀ y ∈ ys, y.length ≤ k) (hk : ys.length * k ≤ 1000000) : joinD (.str (Str.ofString "")) (.lst (ys.map tx)) = some (tx ys.flatten, 0) := by
  have h2 : ((ys.map st).map fun x => x.length + (Str.ofString "").length).sum ≤ LIM := by
    have : ∀ zs : List (List Nat), (∀ z ∈ zs, z.length ≤ k) → ((zs.map st).map fun x => x.length + (Str.ofString "").length).sum ≤ zs.length * k := by
      intro zs
      induction zs with
      | nil => intro _; simp
      | cons z zs ih =>
        intro hz
        have h1 := ih fun y hy => hz y (List.mem_cons_of_mem _ hy)
        have h3 := hz z List.mem_cons_self
        have e : (Str.ofString "").length = 0 := rfl
        simp only [List.map_cons, List.sum_cons, List.length_cons, Nat.succ_mul, st_len, e] at h1 ⊢
        omega
    have := this ys h
    rw [LIMv]; omega
  simp only [joinD, isStrs_tx, if_pos h2, join_st]
  rfl
theorem all_tx {R : List Nat → Prop} : ∀ {xs : List D}, (∀ x ∈ xs, ∃ l, x = tx l ∧ R l) → ∃ ls : List (List Nat), xs = ls.map tx ∧ ∀ l ∈ ls, R l
  | [], _ => ⟨[], rfl, fun _ h => nomatch h⟩
  | x :: xs, h => by
    obtain ⟨l, h1, h2⟩ := h x List.mem_cons_self
    obtain ⟨ls, h3, h4⟩ := all_tx fun y hy => h y (List.mem_cons_of_mem _ hy)
    refine ⟨l :: ls, by rw [h1, h3]; rfl, fun y hy => ?_⟩
    rcases List.mem_cons.mp hy with e | hy
    · rw [e]; exact h2
    · exact h4 y hy
theorem flat_len {k : Nat} : ∀ {ls : List (List Nat)}, (∀ l ∈ ls, l.length ≤ k) → ls.flatten.length ≤ ls.length * k
  | [], _ => by simp
  | l :: ls, h => by
    have h1 := h l List.mem_cons_self
    have h2 := flat_len (k := k) (ls := ls) fun y hy => h y (List.mem_cons_of_mem _ hy)
    simp only [List.flatten_cons, List.length_append, List.length_cons, Nat.succ_mul]
    omega
theorem flat_pl {ls : List (List Nat)} (h : ∀ l ∈ ls, Pl l) : Pl ls.flatten := fun c hc => by
  obtain ⟨l, hl, hc⟩ := List.mem_flatten.mp hc
  exact h l hl c hc
end EvL
end
section
set_option Elab.async false
set_option linter.all false
set_option maxRecDepth 100000
set_option maxHeartbeats 4000000
namespace EvL
open PySem PySem.Spec L2 Ev
/-- a comprehension whose element changes other slots -/
theorem compLoop_inv {own : List Nat} {bd : D → Rho → Option Rho} {t : Rho → Res Bool} {f : Rho → Res (D × Nat)} {Inv : Rho → Prop} {P Q : D → Prop}
    (h : ∀ d ρ, P d → Inv ρ → ∃ ρ1 x l ρ2, bd d (wipeR ρ own) = some ρ1 ∧ t ρ1 = .ok true ρ1 ∧ f ρ1 = .ok (x, l) ρ2 ∧ Q x ∧ Inv ρ2) :
    ∀ (ds : List D) (ρ : Rho) (acc : List D), (∀ d ∈ ds, P d) → Inv ρ → (∀ x ∈ acc, Q x) → acc.length + ds.length ≤ LIM → ∃ xs ρ', compLoop own bd t f ds ρ acc = .ok xs ρ' ∧ Inv ρ' ∧ (∀ x ∈ xs, Q x) ∧ xs.length = acc.length + ds.length
  | [], ρ, acc, _, hi, hq, _ => ⟨acc, ρ, rfl, hi, hq, rfl⟩
  | d :: ds, ρ, acc, hp, hi, hq, hl => by
    obtain ⟨ρ1, x, l, ρ2, h1, h2, h3, h4, h5⟩ := h d ρ (hp d List.mem_cons_self) hi
    simp only [List.length_cons] at hl
    obtain ⟨xs, ρ', h6, h7, h8, h9⟩ := compLoop_inv h ds ρ2 (acc ++ [x]) (fun y hy => hp y (List.mem_cons_of_mem _ hy)) h5 (fun y hy => by
      rcases List.mem_append.mp hy with hy | hy
      · exact hq y hy
      · rw [List.mem_singleton.mp hy]; exact h4) (by simp only [List.length_append, List.length_cons, List.length_nil]; omega)
    refine ⟨xs, ρ', ?_, h7, h8, by rw [h9]; simp only [List.length_append, List.length_cons, List.length_nil]; omega⟩
    have hlt : acc.length < LIM := by omega
    simp only [compLoop, h1, h2, bind_ok', h3, if_true, hlt, h6]
theorem dig_str : ∀ i : Nat, i < 10 → Str.ofString (toString (i : Int)) = st [48 + i] := by decide +kernel
theorem str_dig {i : Int} (h0 : 0 ≤ i) (h1 : i ≤ 9) : strD (.int i) = some (tx [48 + i.toNat], 0) := by
  have hl : i.natAbs.log2 < 1920 := by
    by_cases h : i.natAbs = 0
    · rw [h]; decide
    · have := (Nat.log2_lt h (k := 4)).mpr (by omega)
      omega
  have e : ((i.toNat : Nat) : Int) = i := by omega
  have h2 := dig_str i.toNat (by omega)
  rw [e] at h2
  simp only [strD, if_pos hl]
  show some (D.str (Str.ofString (toString i)), 0) = _
  rw [h2]; rfl
theorem pl_dig {i : Int} (h0 : 0 ≤ i) (h1 : i ≤ 9) : Pl [48 + i.toNat] := fun c hc => by
  rw [List.mem_singleton.mp hc]; omega
/-- what _law_part may give -/
structure PartOk (x : Act) (l : List Nat) : Prop where
  good : x.good
  pl : Pl l
  len : l.length ≤ 100
theorem call20t {n : Nat} (hn : 20 < n) {ρ : Rho} {i : Nat} {b : B} {ds : List D} (hρ : ρ[i]? = some (some (bagD b, 1))) (hb : Bok b) (h0 : ds ≠ []) (h1 : ds.length < 1073741824) :
    ∃ d b', callR (sysP.tb n) 20 [.s i, .v (.tup ds)] ρ = .ok (d, 0) (ρ.set i (some (bagD b', 1))) ∧ Bok b' ∧ d ∈ ds := by
  obtain ⟨d, b', h1, h2, h3⟩ := r20t 20 (by omega) b ds hb h0 h1
  refine ⟨d, b', ?_, h2, h1⟩
  refine call_ok (io20 n) rfl ?_ ((congrFun (run20 hn) _).trans h3) rfl
  simp [rdOs, rdO, hρ]
def ofS (s : String) : List Nat := (Str.ofString s).cps.toList
def ws0 : List (List Nat) := ["fold ", "states ", " of ", "x", "asks "].map ofS
def ws1 : List (List Nat) := ["a", "ab0", "abcdefgh", "of", "ends", "tells", "q7"].map ofS
def ws2 : List (List (List Nat)) := [["answers", "moments", "counts"].map ofS, ["ab", "ac"].map ofS, ["full", "soon", "even"].map ofS]
theorem ws0_ok : ∀ w ∈ ws0, w ≠ [] ∧ w.length ≤ 20 ∧ Pl w := by unfold Pl; decide +kernel
theorem ws1_ok : ∀ w ∈ ws1, w.length ≤ 20 ∧ Pl w := by unfold Pl; decide +kernel
theorem ws2_ok : ∀ v ∈ ws2, v ≠ [] ∧ v.length ≤ 3 ∧ (∀ w ∈ v, w ≠ [] ∧ w.length ≤ 20 ∧ Pl w) ∧ PF v := by
  unfold Pl PF
  decide +kernel
abbrev s22 (b : B) (x1 x2 x3 x4 x5 x6 x7 x8 x9 : Slt) : Rho := [some (bagD b, 1), x1, x2, x3, x4, x5, x6, x7, x8, x9]
/-- the statements of the body -/
def k22 : Nat → CS
  | 0 => d22.body
  | n + 1 => match k22 n with
    | .seq _ b => b
    | _ => .nil
def f22 (n : Nat) : CS := match k22 n with
  | .seq a _ => a
  | _ => .nil
theorem k22_step (n : Nat) (h : n < 7) : k22 n = .seq (f22 n) (k22 (n + 1)) := by
  match n, h with
  | 0, _ => rfl
  | 1, _ => rfl
  | 2, _ => rfl
  | 3, _ => rfl
  | 4, _ => rfl
  | 5, _ => rfl
  | 6, _ => rfl
/-- a test of the kind that fails -/
theorem skip22 (T : Tb) (b : B) (v : Int) (k : Nat) (hk : 1 ≤ k ∧ k ≤ 5) (hv : v ≠ (k : Int) - 1) : evS T [0] (f22 k) (s22 b (some (.int v, 0)) none none none none none none none none) = .nx (s22 b (some (.int v, 0)) none none none none none none none none) := by
  have hq : ∀ i : Int, cmpD .Eq (.int v) (.int i) = some (decide (v = i)) := fun i => int_eq v i
  have hk' : k = 1 ∨ k = 2 ∨ k = 3 ∨ k = 4 ∨ k = 5 := by omega
  rcases hk' with rfl | rfl | rfl | rfl | rfl
  all_goals
    have hv' : ¬ v = _ := hv
    simp only [f22, k22, d22, S_ite, t_cmp, o_cmp, f_cmp, o_var, o_int, f_int]
    simp [varO, varF, frzV, tstO, lift_some, bltO, rdOs, rdO, val1, val2, bool0, optI, seqItems, truD, ifsT, bind_ok', then_ok, seq_nx, seq_rt, seq_bk, seq_ct, setO, getO, ipD, mutOk, mutR, LIMv, f_call, hq, hv']
    omega
end EvL
end
section
set_option Elab.async false
set_option linter.all false
set_option maxRecDepth 100000
set_option maxHeartbeats 4000000
namespace EvL
open PySem PySem.Spec L2 Ev
/-! drawing, as an expression -/
theorem take_f {n : Nat} (hn : 19 < n) {ps : List Nat} {e : CE} {b : B} {r : Rho} {m : Int} {l : Nat} (h : (ev (sysP.tb n) ps e).f (some (bagD b, 1) :: r) = .ok (.int m, l) (some (bagD b, 1) :: r)) (hb : Bok b) (hm : 1 ≤ m) (hm2 : m < 1073741824) :
    ∃ v b', (ev (sysP.tb n) ps (.call 19 (.cons (.var 0) (.cons e .nil)))).f (some (bagD b, 1) :: r) = .ok (.int v, 0) (some (bagD b', 1) :: r) ∧ Bok b' ∧ 0 ≤ v ∧ v < m := by
  obtain ⟨v, b', hc, h1, h2, h3⟩ := call19 hn (ρ := some (bagD b, 1) :: r) (i := 0) (b := b) (m := m) rfl hb hm hm2
  refine ⟨v, b', ?_, h1, h2, h3⟩
  simp [varO, varF, frzV, tstO, lift_some, bltO, rdOs, rdO, val1, val2, bool0, optI, seqItems, truD, ifsT, bind_ok', then_ok, seq_nx, seq_rt, seq_bk, seq_ct, setO, getO, ipD, mutOk, mutR, LIMv, f_call, io19, h, hc]
theorem some_f {n : Nat} (hn : 20 < n) {ps : List Nat} {e : CE} {b : B} {r : Rho} {ds : List D} {l : Nat} (h : (ev (sysP.tb n) ps e).f (some (bagD b, 1) :: r) = .ok (.lst ds, l) (some (bagD b, 1) :: r)) (hb : Bok b) (h0 : ds ≠ []) (h1 : ds.length < 1073741824) :
    ∃ d b', (ev (sysP.tb n) ps (.call 20 (.cons (.var 0) (.cons e .nil)))).f (some (bagD b, 1) :: r) = .ok (d, 0) (some (bagD b', 1) :: r) ∧ Bok b' ∧ d ∈ ds := by
  obtain ⟨d, b', hc, h2, h3⟩ := call20 hn (ρ := some (bagD b, 1) :: r) (i := 0) (b := b) (ds := ds) rfl hb h0 h1
  refine ⟨d, b', ?_, h2, h3⟩
  simp [varO, varF, frzV, tstO, lift_some, bltO, rdOs, rdO, val1, val2, bool0, optI, seqItems, truD, ifsT, bind_ok', then_ok, seq_nx, seq_rt, seq_bk, seq_ct, setO, getO, ipD, mutOk, mutR, LIMv, f_call, io20, h, hc]
theorem good_word {w : List Nat} (h0 : w ≠ []) (h1 : w.length ≤ 100) (h2 : Pl w) : (Act.word w).good := ⟨trivial, trivial, h0, h1, h2⟩
theorem good_one {v : List Nat} {vs : List (List Nat)} (h1 : (v :: vs).length ≤ 100) (h2 : ∀ w ∈ v :: vs, w ≠ [] ∧ w.length ≤ 20 ∧ Pl w) (h3 : PF (v :: vs)) : (Act.one v vs).good :=
  ⟨⟨fun w hw => by have := (h2 w hw).2.1; omega, by omega⟩, h3, fun w hw => (h2 w hw).1, fun w hw => ⟨by have := (h2 w hw).2.1; omega, (h2 w hw).2.2⟩⟩
/-- one kind of _law_part -/
def K22 (n : Nat) (k : Nat) : Prop := ∀ b : B, Bok b → ∃ x l b' r, evS (sysP.tb n) [0] (f22 (k + 1)) (s22 b (some (.int (k : Int), 0)) none none none none none none none none) = .rt (.tup [x.d, tx l]) 0 (some (bagD b', 1) :: r) ∧ Bok b' ∧ PartOk x l
theorem k22_0 (n : Nat) (hn : 20 < n) : K22 n 0 := by
  intro b hb
  obtain ⟨d, b', hc, hb', hd⟩ := some_f hn (ps := [0]) (e := .lst (.cons (.str (Str.ofString "fold ")) (.cons (.str (Str.ofString "states ")) (.cons (.str (Str.ofString " of ")) (.cons (.str (Str.ofString "x")) (.cons (.str (Str.ofString "asks ")) .nil)))))) (b := b)
    (r := [some (.int 0, 0), none, none, none, none, none, none, none, none]) (ds := ws0.map tx) (l := 1) rfl hb (by decide +kernel) (by decide +kernel)
  obtain ⟨w, hw, rfl⟩ := List.mem_map.mp hd
  obtain ⟨h0, h1, h2⟩ := ws0_ok w hw
  refine ⟨.word w, w, b', [some (.int 0, 0), some (tx w, 0), none, none, none, none, none, none, none], ?_, hb', good_word h0 (by omega) h2, h2, by omega⟩
  have hq : cmpD .Eq (.int 0) (.int 0) = some true := rfl
  simp only [f22, k22, d22, s22, Act.d]
  simp [varO, varF, frzV, tstO, lift_some, bltO, rdOs, rdO, val1, val2, bool0, optI, seqItems, truD, ifsT, bind_ok', then_ok, seq_nx, seq_rt, seq_bk, seq_ct, setO, getO, ipD, mutOk, mutR, LIMv, hc, hq]
theorem k22_1 (n : Nat) (hn : 20 < n) : K22 n 1 := by
  intro b hb
  obtain ⟨d, b', hc, hb', hd⟩ := some_f hn (ps := [0]) (e := .lst (.cons (.str (Str.ofString "a")) (.cons (.str (Str.ofString "ab0")) (.cons (.str (Str.ofString "abcdefgh")) (.cons (.str (Str.ofString "of")) (.cons (.str (Str.ofString "ends")) (.cons (.str (Str.ofString "tells")) (.cons (.str (Str.ofString "q7")) .nil)))))))) (b := b)
    (r := [some (.int 1, 0), none, none, none, none, none, none, none, none]) (ds := ws1.map tx) (l := 1) rfl hb (by decide +kernel) (by decide +kernel)
  obtain ⟨w, hw, rfl⟩ := List.mem_map.mp hd
  obtain ⟨h1, h2⟩ := ws1_ok w hw
  refine ⟨.name, w, b', [some (.int 1, 0), none, some (tx w, 0), none, none, none, none, none, none], ?_, hb', ⟨trivial, trivial, trivial, trivial⟩, h2, by omega⟩
  have hq : cmpD .Eq (.int 1) (.int 1) = some true := rfl
  simp only [f22, k22, d22, s22, Act.d]
  simp [varO, varF, frzV, tstO, lift_some, bltO, rdOs, rdO, val1, val2, bool0, optI, seqItems, truD, ifsT, bind_ok', then_ok, seq_nx, seq_rt, seq_bk, seq_ct, setO, getO, ipD, mutOk, mutR, LIMv, hc, hq]
theorem k22_2 (n : Nat) (hn : 20 < n) : K22 n 2 := by
  intro b hb
  obtain ⟨d, b1, hc, hb1, hd⟩ := some_f hn (ps := [0]) (e := .lst (.cons (.tup (.cons (.str (Str.ofString "answers")) (.cons (.str (Str.ofString "moments")) (.cons (.str (Str.ofString "counts")) .nil)))) (.cons (.tup (.cons (.str (Str.ofString "ab")) (.cons (.str (Str.ofString "ac")) .nil))) (.cons (.tup (.cons (.str (Str.ofString "full")) (.cons (.str (Str.ofString "soon")) (.cons (.str (Str.ofString "even")) .nil)))) .nil)))) (b := b)
    (r := [some (.int 2, 0), none, none, none, none, none, none, none, none]) (ds := ws2.map fun v => .tup (v.map tx)) (l := 1) rfl hb (by decide +kernel) (by decide +kernel)
  obtain ⟨v, hv, rfl⟩ := List.mem_map.mp hd
  obtain ⟨h0, h1, h2, h3⟩ := ws2_ok v hv
  obtain ⟨d, b', hc2, hb', hd⟩ := some_f hn (ps := [0]) (e := .blt .list (.cons (.var 4) .nil)) (b := b1) (r := [some (.int 2, 0), none, none, some (.tup (v.map tx), 0), none, none, none, none, none]) (ds := v.map tx) (l := 1) rfl hb1 (by simpa using h0) (by rw [List.length_map]; omega)
  obtain ⟨w, hw, rfl⟩ := List.mem_map.mp hd
  obtain ⟨v0, vs, rfl⟩ : ∃ v0 vs, v = v0 :: vs := by
    cases v with
    | nil => exact absurd rfl h0
    | cons v0 vs => exact ⟨v0, vs, rfl⟩
  refine ⟨.one v0 vs, w, b', [some (.int 2, 0), none, none, some (.tup ((v0 :: vs).map tx), 0), none, none, none, none, none], ?_, hb', good_one (by omega) h2 h3, (h2 w hw).2.2, by have := (h2 w hw).2.1; omega⟩
  have hq : cmpD .Eq (.int 2) (.int 2) = some true := rfl
  simp only [f22, k22, d22, s22, Act.d]
  generalize (v0 :: vs).map tx = W at *
  simp [varO, varF, frzV, tstO, lift_some, bltO, rdOs, rdO, val1, val2, bool0, optI, seqItems, truD, ifsT, bind_ok', then_ok, seq_nx, seq_rt, seq_bk, seq_ct, setO, getO, ipD, mutOk, mutR, LIMv, hc, hq, hc2]
theorem k22_3 (n : Nat) (hn : 20 < n) : K22 n 3 := by
  intro b hb
  obtain ⟨u, b1, hc, hb1, u0, u1⟩ := take_f (n := n) (by omega) (ps := [0]) (e := .int 5) (b := b) (r := [some (.int 3, 0), none, none, none, none, none, none, none, none]) (m := 5) (l := 0) rfl hb (by omega) (by omega)
  obtain ⟨v, b2, hc2, hb2, v0, v1⟩ := take_f (n := n) (by omega) (ps := [0]) (e := .bin .Sub (.int 10) (.var 5)) (b := b1) (r := [some (.int 3, 0), none, none, none, some (.int u, 0), none, none, none, none]) (m := 10 - u) (l := 0) rfl hb1 (by omega) (by omega)
  obtain ⟨w, b3, hc3, hb3, w0, w1⟩ := take_f (n := n) (by omega) (ps := [0]) (e := .bin .Add (.bin .Sub (.var 6) (.var 5)) (.int 1)) (b := b2) (r := [some (.int 3, 0), none, none, none, some (.int u, 0), some (.int (u + v), 0), none, none, none]) (m := u + v - u + 1) (l := 0) rfl hb2 (by omega) (by omega)
  have hs := str_dig (i := u + w) (by omega) (by omega)
  have hb1' : ∀ d, blt1 .str d = strD d := fun _ => rfl
  refine ⟨.count u (u + v), [48 + (u + w).toNat], b3, [some (.int 3, 0), none, none, none, some (.int u, 0), some (.int (u + v), 0), none, none, none], ?_, hb3, ⟨trivial, trivial, trivial, trivial⟩, pl_dig (by omega) (by omega), by simp⟩
  have hq : cmpD .Eq (.int 3) (.int 3) = some true := rfl
  have hadd : ∀ i j : Int, binD .Add (.int i) (.int j) = some (.int (i + j), 0) := fun _ _ => rfl
  simp only [f22, k22, d22, s22, Act.d]
  simp [varO, varF, frzV, tstO, lift_some, bltO, rdOs, rdO, val1, val2, bool0, optI, seqItems, truD, ifsT, bind_ok', then_ok, seq_nx, seq_rt, seq_bk, seq_ct, setO, getO, ipD, mutOk, mutR, LIMv, hc, hq, hc2, hc3, hadd, bltD, hb1', hs]
end EvL
end
section
set_option Elab.async false
set_option linter.all false
set_option maxRecDepth 100000
set_option maxHeartbeats 4000000
namespace EvL
open PySem PySem.Spec L2 Ev
abbrev r22a (m q : Int) (x y : Slt) : Rho := [some (.int 4, 0), none, none, none, none, some (.int q, 0), some (.int m, 0), x, y]
theorem lc22 (n : Nat) (hn : 20 < n) (b : B) (m q : Int) (hb : Bok b) (m1 : 1 ≤ m) (m2 : m ≤ 4) (q1 : 3 ≤ q) (q2 : q ≤ 9) : ∃ (ls : List (List Nat)) (b' : B), (ev (sysP.tb n) [0] p22_1).f (some (bagD b, 1) :: r22a m q none none) = .ok (.lst (ls.map tx), 1) (some (bagD b', 1) :: r22a m q none none) ∧ Bok b' ∧ ls.length ≤ 10 ∧ ∀ l ∈ ls, Pl l ∧ l.length ≤ 2 := by
  obtain ⟨v, b1, hc, hb1, v0, v1⟩ := take_f (n := n) (by omega) (ps := [0]) (e := .var 7) (b := b) (r := r22a m q none none) (m := m) (l := 0) rfl hb (by omega) (by omega)
  have hm : (ev (sysP.tb n) [0] (.bin .Add (.int 1) (.call 19 (.cons (.var 0) (.cons (.var 7) .nil))))).f (some (bagD b, 1) :: r22a m q none none) = .ok (.int ((1 + v.toNat : Nat) : Int), 0) (some (bagD b1, 1) :: r22a m q none none) := by
    have e : ((1 + v.toNat : Nat) : Int) = 1 + v := by omega
    have hadd : ∀ i j : Int, binD .Add (.int i) (.int j) = some (.int (i + j), 0) := fun _ _ => rfl
    rw [e]
    simp [varO, varF, frzV, tstO, lift_some, bltO, rdOs, rdO, val1, val2, bool0, optI, seqItems, truD, ifsT, bind_ok', then_ok, seq_nx, seq_rt, seq_bk, seq_ct, setO, getO, ipD, mutOk, mutR, LIMv, hc, hadd]
  have hit := rg1_it (T := sysP.tb n) (ps := [0]) hm (by rw [LIMv]; omega)
  obtain ⟨xs, ρ', h1, h2, h3, h4⟩ := compLoop_inv (own := [9]) (bd := bindT [0] (.nm 9)) (t := ifsT .nil (ev (sysP.tb n) [0] .nil).t) (f := (ev (sysP.tb n) [0] p22_0).f) (Inv := fun ρ => ∃ b y, Bok b ∧ ρ = some (bagD b, 1) :: r22a m q none y) (P := fun d => ∃ i : Int, d = .int i) (Q := fun d => ∃ l, d = tx l ∧ (Pl l ∧ l.length ≤ 2)) (by
    rintro d ρ ⟨i, rfl⟩ ⟨b, y, hb, rfl⟩
    obtain ⟨w, b', hc, hb', w0, w1⟩ := take_f (n := n) (by omega) (ps := [0]) (e := .bin .Add (.var 6) (.int 1)) (b := b) (r := r22a m q none (some (.int i, 0))) (m := q + 1) (l := 0) rfl hb (by omega) (by omega)
    refine ⟨some (bagD b, 1) :: r22a m q none (some (.int i, 0)), tx [32, 48 + w.toNat], 0, some (bagD b', 1) :: r22a m q none (some (.int i, 0)), ?_, rfl, ?_, ⟨_, rfl, ?_, ?_⟩, ⟨b', _, hb', rfl⟩⟩
    · simp [r22a, wipeR]
    · have hb1' : ∀ d, blt1 .str d = strD d := fun _ => rfl
      have hs := str_dig (i := w) (by omega) (by omega)
      have hcat : binD .Add (.str (Str.ofString " ")) (tx [48 + w.toNat]) = some (tx [32, 48 + w.toNat], 0) := rfl
      simp [varO, varF, frzV, tstO, lift_some, bltO, rdOs, rdO, val1, val2, bool0, optI, seqItems, truD, ifsT, bind_ok', then_ok, seq_nx, seq_rt, seq_bk, seq_ct, setO, getO, ipD, mutOk, mutR, LIMv, p22_0, hc, bltD, hb1', hs, hcat]
    · intro c hc
      rcases List.mem_cons.mp hc with e | hc
      · omega
      · rw [List.mem_singleton.mp hc]; omega
    · simp) (natL 0 (1 + v.toNat)) (some (bagD b1, 1) :: r22a m q none none) [] (by
    intro d hd
    obtain ⟨i, _, rfl⟩ := List.mem_map.mp hd
    exact ⟨_, rfl⟩) ⟨b1, none, hb1, rfl⟩ (fun _ h => nomatch h) (by simp only [natL, List.length_map, List.length_range', List.length_nil, LIMv]; omega)
  obtain ⟨ls, rfl, hls⟩ := all_tx h3
  obtain ⟨b2, y, hb2, rfl⟩ := h2
  have hlc := lc_f (T := sysP.tb n) (ps := [0]) (own := [9]) (t := .nm 9) (ifs := .nil) (e := p22_0) hit h1
  refine ⟨ls, b2, hlc, hb2, ?_, hls⟩
  simp only [natL, List.length_map, List.length_range', List.length_nil] at h4
  omega
theorem k22_4 (n : Nat) (hn : 20 < n) : K22 n 4 := by
  intro b hb
  obtain ⟨u, b1, hc, hb1, u0, u1⟩ := take_f (n := n) (by omega) (ps := [0]) (e := .int 4) (b := b) (r := [some (.int 4, 0), none, none, none, none, none, none, none, none]) (m := 4) (l := 0) rfl hb (by omega) (by omega)
  obtain ⟨v, b2, hc2, hb2, v0, v1⟩ := take_f (n := n) (by omega) (ps := [0]) (e := .int 7) (b := b1) (r := [some (.int 4, 0), none, none, none, none, none, none, none, none]) (m := 7) (l := 0) rfl hb1 (by omega) (by omega)
  obtain ⟨ls, b3, hc3, hb3, hl1, hl2⟩ := lc22 n hn b2 (1 + u) (3 + v) hb2 (by omega) (by omega) (by omega) (by omega)
  have hj := join_tx (ys := ls) (k := 2) (fun y hy => (hl2 y hy).2) (by omega)
  have hf := flat_len (k := 2) (ls := ls) fun y hy => (hl2 y hy).2
  refine ⟨.row (1 + u.toNat) 0 (3 + v), ls.flatten, b3, r22a (1 + u) (3 + v) (some (.lst (ls.map tx), 1)) none, ?_, hb3, ⟨?_, trivial, trivial, trivial⟩, flat_pl fun l hl => (hl2 l hl).1, by omega⟩
  · have hq : cmpD .Eq (.int 4) (.int 4) = some true := rfl
    have hadd : ∀ i j : Int, binD .Add (.int i) (.int j) = some (.int (i + j), 0) := fun _ _ => rfl
    have e : ((1 + u.toNat : Nat) : Int) = 1 + u := by omega
    simp only [r22a] at hc3
    simp only [f22, k22, d22, s22, Act.d, e, r22a]
    generalize ls.map tx = W at *
    simp [varO, varF, frzV, tstO, lift_some, bltO, rdOs, rdO, val1, val2, bool0, optI, seqItems, truD, ifsT, bind_ok', then_ok, seq_nx, seq_rt, seq_bk, seq_ct, setO, getO, ipD, mutOk, mutR, LIMv, hc, hq, hc2, hc3, hadd, mthOk, mthL, mthD, hj]
  · show 1 + u.toNat ≤ 100
    omega
/-- _law_part -/
theorem r22 (n : Nat) (hn : 20 < n) (b : B) (hb : Bok b) : ∃ x l b', runDef (sysP.tb n) d22 [bagD b] = .ok (.tup [x.d, tx l]) 0 [some (bagD b', 1)] ∧ Bok b' ∧ PartOk x l := by
  have hps : d22.ps = [0] := rfl
  have e : startR d22 [bagD b] = s22 b none none none none none none none none none := rfl
  obtain ⟨v, b1, hc, hb1, v0, v1⟩ := take_f (n := n) (by omega) (ps := [0]) (e := .int 6) (b := b) (r := [none, none, none, none, none, none, none, none, none]) (m := 6) (l := 0) rfl hb (by omega) (by omega)
  have h0 : evS (sysP.tb n) [0] (f22 0) (s22 b none none none none none none none none none) = .nx (s22 b1 (some (.int v, 0)) none none none none none none none none) := by
    simp only [f22, k22, d22, s22]
    simp [varO, varF, frzV, tstO, lift_some, bltO, rdOs, rdO, val1, val2, bool0, optI, seqItems, truD, ifsT, bind_ok', then_ok, seq_nx, seq_rt, seq_bk, seq_ct, setO, getO, ipD, mutOk, mutR, LIMv, hc]
  have hseq : ∀ x y ρ, evS (sysP.tb n) [0] (.seq x y) ρ = (evS (sysP.tb n) [0] x ρ).seq (evS (sysP.tb n) [0] y) := fun _ _ _ => rfl
  rw [runDef_eq rfl, hps, e, show d22.body = k22 0 from rfl, k22_step 0 (by omega), hseq, h0, seq_nx]
  have key : ∀ k : Nat, k ≤ 4 → v = (k : Int) → ∀ j : Nat, j ≤ k → ∃ x l b' r, evS (sysP.tb n) [0] (k22 (k - j + 1)) (s22 b1 (some (.int v, 0)) none none none none none none none none) = .rt (.tup [x.d, tx l]) 0 (some (bagD b', 1) :: r) ∧ Bok b' ∧ PartOk x l := by
    intro k hk hv j
    induction j with
    | zero =>
      intro _
      have hK : K22 n k := by
        have : k = 0 ∨ k = 1 ∨ k = 2 ∨ k = 3 ∨ k = 4 := by omega
        rcases this with rfl | rfl | rfl | rfl | rfl
        · exact k22_0 n hn
        · exact k22_1 n hn
        · exact k22_2 n hn
        · exact k22_3 n hn
        · exact k22_4 n hn
      obtain ⟨x, l, b', r, h1, h2, h3⟩ := hK b1 hb1
      refine ⟨x, l, b', r, ?_, h2, h3⟩
      rw [k22_step _ (by omega), hseq, hv]
      rw [show k - 0 + 1 = k + 1 by omega, h1, seq_rt]
    | succ j ih =>
      intro hj
      obtain ⟨x, l, b', r, h1, h2, h3⟩ := ih (by omega)
      refine ⟨x, l, b', r, ?_, h2, h3⟩
      rw [k22_step _ (by omega), hseq, skip22 (sysP.tb n) b1 v (k - (j + 1) + 1) (by omega) (by omega), seq_nx]
      rw [show k - (j + 1) + 1 + 1 = k - j + 1 by omega]
      exact h1
  by_cases h5 : v = 5
  · refine ⟨.fin, [], b1, ?_, hb1, ⟨⟨trivial, trivial, trivial, trivial⟩, (fun _ h => nomatch h), by simp⟩⟩
    have h6 : ∀ k, 1 ≤ k ∧ k ≤ 5 → evS (sysP.tb n) [0] (f22 k) _ = _ := fun k hk => skip22 (sysP.tb n) b1 v k hk (by omega)
    rw [k22_step 1 (by omega), hseq, h6 1 (by omega), seq_nx, k22_step 2 (by omega), hseq, h6 2 (by omega), seq_nx, k22_step 3 (by omega), hseq, h6 3 (by omega), seq_nx, k22_step 4 (by omega), hseq, h6 4 (by omega), seq_nx, k22_step 5 (by omega), hseq, h6 5 (by omega), seq_nx]
    rfl
  · obtain ⟨x, l, b', r, h1, h2, h3⟩ := key v.toNat (by omega) (by omega) v.toNat (by omega)
    refine ⟨x, l, b', ?_, h2, h3⟩
    rw [show v.toNat - v.toNat + 1 = 1 by omega] at h1
    rw [h1]
    simp [finR, maskR, d22]
theorem run22 {n : Nat} (h : 22 < n) : (sysP.tb n).run 22 = runDef (sysP.tb 22) d22 := runP h rfl
theorem io22 (n : Nat) : (sysP.tb n).io 22 = [true] := ioP (d := d22) rfl
theorem part_f {n : Nat} (hn : 22 < n) {ps : List Nat} {b : B} {r : Rho} (hb : Bok b) :
    ∃ x l b', (ev (sysP.tb n) ps (.call 22 (.cons (.var 0) .nil))).f (some (bagD b, 1) :: r) = .ok (.tup [x.d, tx l], 0) (some (bagD b', 1) :: r) ∧ Bok b' ∧ PartOk x l := by
  obtain ⟨x, l, b', h1, h2, h3⟩ := r22 22 (by omega) b hb
  refine ⟨x, l, b', ?_, h2, h3⟩
  have hc : callR (sysP.tb n) 22 [.s 0] (some (bagD b, 1) :: r) = .ok (.tup [x.d, tx l], 0) (some (bagD b', 1) :: r) := call_ok (io22 n) rfl rfl ((congrFun (run22 hn) _).trans h1) rfl
  simp [varO, varF, frzV, tstO, lift_some, bltO, rdOs, rdO, val1, val2, bool0, optI, seqItems, truD, ifsT, bind_ok', then_ok, seq_nx, seq_rt, seq_bk, seq_ct, setO, getO, ipD, mutOk, mutR, LIMv, f_call, io22, hc]
theorem run21 {n : Nat} (h : 21 < n) : (sysP.tb n).run 21 = runDef (sysP.tb 21) d21 := runP h rfl
theorem io21 (n : Nat) : (sysP.tb n).io 21 = [true, false] := ioP (d := d21) rfl
end EvL
end
section
set_option Elab.async false
set_option linter.all false
set_option maxRecDepth 100000
set_option maxHeartbeats 4000000
namespace EvL
open PySem PySem.Spec L2 Ev
theorem signs_pl : ∀ c ∈ signs, c < 128 := by decide +kernel
theorem spoil_f {n : Nat} (hn : 21 < n) {ps : List Nat} {e : CE} {b b0 : B} {r r0 : Rho} {l : List Nat} {k : Nat} (h : (ev (sysP.tb n) ps e).f (some (bagD b0, 1) :: r0) = .ok (tx l, k) (some (bagD b, 1) :: r)) (hb : Bok b) (hl : l.length ≤ 1000000) (hp : Pl l) :
    ∃ l' b', (ev (sysP.tb n) ps (.call 21 (.cons (.var 0) (.cons e .nil)))).f (some (bagD b0, 1) :: r0) = .ok (tx l', 0) (some (bagD b', 1) :: r) ∧ Bok b' ∧ l'.length ≤ l.length + 1 ∧ Pl l' := by
  obtain ⟨l', b', h1, h2, h3, h4⟩ := r21 21 (by omega) b l hb hl
  refine ⟨l', b', ?_, h1, h2, fun c hc => ?_⟩
  · have hc : callR (sysP.tb n) 21 [.s 0, .v (tx l)] (some (bagD b, 1) :: r) = .ok (tx l', 0) (some (bagD b', 1) :: r) := call_ok (io21 n) rfl rfl ((congrFun (run21 hn) _).trans h4) rfl
    simp [varO, varF, frzV, tstO, lift_some, bltO, rdOs, rdO, val1, val2, bool0, optI, seqItems, truD, ifsT, bind_ok', then_ok, seq_nx, seq_rt, seq_bk, seq_ct, setO, getO, ipD, mutOk, mutR, LIMv, f_call, io21, h, hc]
  · rcases h3 c hc with h | h
    · exact hp c h
    · exact signs_pl c h
/-! how far an act leads -/
theorem word_le (t : List Nat) : ∀ (w : List Nat) (a : Nat) (g : Bool), (wordGo t w a g).1 ≤ a + w.length
  | [], a, g => by simp [wordGo]
  | c :: w, a, g => by
    unfold wordGo
    split
    · have := word_le t w (a + 1) g
      simp only [List.length_cons]; omega
    · simp
theorem cnt_le (t : List Nat) (a : Nat) (g : Bool) (lo hi : Int) : (cntGo t a g lo hi).2.1 ≤ a + 1 := by
  unfold cntGo; split <;> simp
theorem row_le (t : List Nat) (lo hi : Int) : ∀ (k : Nat) (f : List Int) (a : Nat) (g : Bool), (rowGo t lo hi k f a g).2.1 ≤ a + 2 * k
  | 0, f, a, g => Nat.le_refl _
  | k + 1, f, a, g => by
    unfold rowGo
    split
    · have h1 := row_le t lo hi k (f ++ [(rowA t a g lo hi).1]) (rowA t a g lo hi).2.1 (rowA t a g lo hi).2.2
      have h2 := cnt_le t (wordGo t [32] a g).1 (wordGo t [32] a g).2 lo hi
      have h3 := word_le t [32] a g
      have h4 : (rowA t a g lo hi).2.1 ≤ a + 2 := by unfold rowA; simp only [List.length_cons, List.length_nil] at h3; omega
      omega
    · show a ≤ _; omega
theorem go_le (t : List Nat) (a : Nat) (g : Bool) (x : Act) (hx : x.good) : (x.go t a g).2.1 ≤ a + 1000 := by
  cases x with
  | word w =>
    have := word_le t w a g
    have := hx.2.2.2.1
    show (wordGo t w a g).1 ≤ _
    omega
  | name =>
    show (nameGo t a g).2.1 ≤ _
    unfold nameGo
    split
    · show a ≤ _; omega
    · show a + min (restRun t a).length 8 ≤ _
      omega
  | one v vs =>
    have h1 := word_le t (oneAt t a (v :: vs)) a g
    have h2 := (hx.2.2.2 _ (one_mem t a v vs).1).1
    show (wordGo t (oneAt t a (v :: vs)) a g).1 ≤ _
    omega
  | count lo hi =>
    have := cnt_le t a g lo hi
    show (cntGo t a g lo hi).2.1 ≤ _
    omega
  | row m lo hi =>
    have := row_le t lo hi m [] a g
    have h2 : m ≤ 100 := hx.1
    show (rowGo t lo hi m [] a g).2.1 ≤ _
    omega
  | fin => show a ≤ _; omega
theorem run32 {n : Nat} (h : 32 < n) : (sysP.tb n).run 32 = runDef (sysP.tb 32) d32 := runP h rfl
theorem io32 (n : Nat) : (sysP.tb n).io 32 = [false, false, false] := ioP (d := d32) rfl
theorem call32 {n : Nat} (hn : 32 < n) {ρ : Rho} {t : List Nat} {a : Nat} {x : Act} (hl : t.length ≤ 100000) (hp : Pl t) (hx : x.good) : callR (sysP.tb n) 32 [.v (tx t), .v (.int a), .v x.d] ρ = .ok (x.tk t a, 0) ρ :=
  call_ok (io32 n) rfl rfl ((congrFun (run32 hn) _).trans (r32 _ (by omega) t a x hl hp hx.1 (fun w e => by
    subst e
    have := hx.2.2.2.1
    omega))) rfl
theorem fine3 {t : List Nat} (hp : Pl t) (hl : t.length ≤ 10000) {a : Nat} (ha : a < 1000000000) (g : Bool) : Fine (.lst [tx t, .int (a : Int), .bl g]) := by
  have hi := leaf_int (i := (a : Int)) (small_lt (by omega))
  refine ⟨?_, ?_, ?_⟩
  · have h1 : okAt 49 (tx t) = true := okD_tx hp
    simp only [okAt, okAll, h1]; rfl
  · have h1 : (py (tx t)).showable = true := rfl
    simp only [py, pys, PyData.showable, PyData.showableAll, Bool.and_true]
    rw [show (py (tx t)).showable = true from rfl]
    simpa [py, PyData.showable] using hi.2.1
  · have h1 : szD (tx t) = 10 * t.length + 2 := by
      show 10 * (st t).length + 2 = _
      rw [st_len]
    simp only [szD, szL, h1]
    omega
theorem eq3 {t : List Nat} (hp : Pl t) (i : Int) (g : Bool) : cmpD .NotEq (.tup [tx t, .int i, .bl g]) (.tup [tx t, .int i, .bl g]) = some false := by
  have h : okD (.tup [tx t, .int i, .bl g]) = true := by
    have h1 : okAt 59 (tx t) = true := okD_tx hp
    show okAt 60 _ = true
    simp only [okAt, okAll, h1]; rfl
  show (eqE _ _).map (!·) = _
  rw [eqE_self h]; rfl
abbrev s34 (b : B) (P : Slt) (t : List Nat) (a : Nat) (g : Bool) (x6 x7 x8 x9 x10 x11 x12 : Slt) : Rho := [some (bagD b, 1), P, some (tx t, 0), some (scD t a g, 1), some (.int a, 0), some (.bl g, 0), x6, x7, x8, x9, x10, x11, x12]
/-- one turn of the loop -/
theorem t34 (n : Nat) (hn : 33 < n) (b : B) (P : Slt) (t : List Nat) (a : Nat) (g : Bool) (x : Act) (l : Slt) (x8 x9 x10 x11 x12 : Slt) (hl : t.length ≤ 10000) (hp : Pl t) (hx : x.good) (ha : a + 1000 < 1000000000) :
    ∃ a' g' y8 y10 y11 y12, evS (sysP.tb n) [0] p34_0 (s34 b P t a g (some (x.d, 0)) l x8 x9 x10 x11 x12) = .nx (s34 b P t a' g' (some (x.d, 0)) l y8 x9 y10 y11 y12) ∧ a' ≤ a + 1000 := by
  have hc := call25 (n := n) (by omega) (ρ := s34 b P t a g (some (x.d, 0)) l x8 x9 x10 x11 x12) (i := 3) (t := t) (a := a) (g := g) (x := x) rfl (by omega) hx.1
  have hfin := go_fine t a g x hx
  have hle := go_le t a g x hx
  have hca := fun ρ => Fine.call (n := n) hn hfin ρ
  cases g with
  | false =>
    have hb := go_bad t a x hx.2.2.1
    have hA := fun ρ => Fine.call (n := n) hn (fine3 hp hl (a := a) (by omega) false) ρ
    rw [hb] at hc
    generalize (x.go t a false).1 = f at *
    generalize x.d = X at *
    refine ⟨a, false, some (f, 0), x10, x11, x12, ?_, by omega⟩
    simp only [s34, scG] at hc ⊢
    simp [varO, varF, frzV, tstO, lift_some, bltO, rdOs, rdO, val1, val2, bool0, optI, seqItems, truD, ifsT, bind_ok', then_ok, seq_nx, seq_rt, seq_bk, seq_ct, setO, getO, ipD, mutOk, mutR, LIMv, f_call, p34_0, io25, io33, hc, fld_text, fld_at, fld_good, hA]
  | true =>
    obtain ⟨o, good, shown, v, h1, h2, h3, h4, _⟩ := go_law t a x hx.2.1
    have hct := fun ρ => call32 (n := n) (by omega) (ρ := ρ) (t := t) (a := a) (x := x) (by omega) hp hx
    rw [h2] at hc hle
    rw [h1] at hct
    have hA := fun ρ => Fine.call (n := n) hn (fine3 hp hl (a := a + o) (by simp only at hle; omega) good) ρ
    have e : ((a + o : Nat) : Int) = (a : Int) + (o : Int) := by omega
    have hadd : ∀ i j : Int, binD .Add (.int i) (.int j) = some (.int (i + j), 0) := fun _ _ => rfl
    generalize (x.go t a true).1 = f at *
    generalize x.d = X at *
    refine ⟨a + o, good, some (f, 0), some (.int o, 0), some (v, 0), some (.bl shown, 0), ?_, hle⟩
    simp only [s34, scG, e] at hc hA ⊢
    cases good with
    | false => simp [varO, varF, frzV, tstO, lift_some, bltO, rdOs, rdO, val1, val2, bool0, optI, seqItems, truD, ifsT, bind_ok', then_ok, seq_nx, seq_rt, seq_bk, seq_ct, setO, getO, ipD, mutOk, mutR, LIMv, f_call, p34_0, io25, io33, io32, hc, hct, hadd, fld_text, fld_at, fld_good, hA]
    | true =>
      cases shown with
      | false => simp [varO, varF, frzV, tstO, lift_some, bltO, rdOs, rdO, val1, val2, bool0, optI, seqItems, truD, ifsT, bind_ok', then_ok, seq_nx, seq_rt, seq_bk, seq_ct, setO, getO, ipD, mutOk, mutR, LIMv, f_call, p34_0, io25, io33, io32, hc, hct, hadd, fld_text, fld_at, fld_good, hA]
      | true =>
        have hfv := h3 rfl rfl
        subst hfv
        simp [varO, varF, frzV, tstO, lift_some, bltO, rdOs, rdO, val1, val2, bool0, optI, seqItems, truD, ifsT, bind_ok', then_ok, seq_nx, seq_rt, seq_bk, seq_ct, setO, getO, ipD, mutOk, mutR, LIMv, f_call, p34_0, io25, io33, io32, hc, hct, hadd, fld_text, fld_at, fld_good, hA, hca]
theorem l34 (n : Nat) (hn : 33 < n) (b : B) (P : Slt) (t : List Nat) (hl : t.length ≤ 10000) (hp : Pl t) : ∀ (ds : List D) (a : Nat) (g : Bool) (x6 x7 x8 x9 x10 x11 x12 : Slt), (∀ d ∈ ds, ∃ x l, d = .tup [Act.d x, l] ∧ x.good) → a + 1000 * ds.length < 1000000000 →
    ∃ r, forLoop (bindT [0] (.tp (.cons (.nm 6) (.cons (.nm 7) .nil)))) (evS (sysP.tb n) [0] p34_0) ds (s34 b P t a g x6 x7 x8 x9 x10 x11 x12) = .nx (some (bagD b, 1) :: r)
  | [], a, g, x6, x7, x8, x9, x10, x11, x12, _, _ => ⟨_, rfl⟩
  | d :: ds, a, g, x6, x7, x8, x9, x10, x11, x12, hd, ha => by
    simp only [List.length_cons] at ha
    obtain ⟨x, l, rfl, hx⟩ := hd d List.mem_cons_self
    obtain ⟨a', g', y8, y10, y11, y12, h1, h2⟩ := t34 n hn b P t a g x (some (l, 0)) x8 x9 x10 x11 x12 hl hp hx (by omega)
    obtain ⟨r, h3⟩ := l34 n hn b P t hl hp ds a' g' (some (x.d, 0)) (some (l, 0)) y8 x9 y10 y11 y12 (fun y hy => hd y (List.mem_cons_of_mem _ hy)) (by omega)
    refine ⟨r, ?_⟩
    have hbd : bindT [0] (.tp (.cons (.nm 6) (.cons (.nm 7) .nil))) (.tup [x.d, l]) (s34 b P t a g x6 x7 x8 x9 x10 x11 x12) = some (s34 b P t a g (some (x.d, 0)) (some (l, 0)) x8 x9 x10 x11 x12) := by
      simp [s34]
    simp only [forLoop, hbd, h1]
    exact h3
end EvL
end
section
set_option Elab.async false
set_option linter.all false
set_option maxRecDepth 100000
set_option maxHeartbeats 4000000
namespace EvL
open PySem PySem.Spec L2 Ev
abbrev nn (k : Nat) : Rho := List.replicate k none
/-- a list of parts -/
def Parts (ds : List D) : Prop := ∀ d ∈ ds, ∃ x l, d = .tup [Act.d x, tx l] ∧ PartOk x l
theorem lc34 (n : Nat) (hn : 22 < n) (b : B) (hb : Bok b) : ∃ ds b', (ev (sysP.tb n) [0] p34_4).f (some (bagD b, 1) :: nn 12) = .ok (.lst ds, 1) (some (bagD b', 1) :: nn 12) ∧ Bok b' ∧ ds.length ≤ 5 ∧ Parts ds := by
  obtain ⟨v, b1, hc, hb1, v0, v1⟩ := take_f (n := n) (by omega) (ps := [0]) (e := .int 5) (b := b) (r := nn 12) (m := 5) (l := 0) rfl hb (by omega) (by omega)
  have hm : (ev (sysP.tb n) [0] (.bin .Add (.int 1) (.call 19 (.cons (.var 0) (.cons (.int 5) .nil))))).f (some (bagD b, 1) :: nn 12) = .ok (.int ((1 + v.toNat : Nat) : Int), 0) (some (bagD b1, 1) :: nn 12) := by
    have e : ((1 + v.toNat : Nat) : Int) = 1 + v := by omega
    have hadd : ∀ i j : Int, binD .Add (.int i) (.int j) = some (.int (i + j), 0) := fun _ _ => rfl
    rw [e]
    simp [varO, varF, frzV, tstO, lift_some, bltO, rdOs, rdO, val1, val2, bool0, optI, seqItems, truD, ifsT, bind_ok', then_ok, seq_nx, seq_rt, seq_bk, seq_ct, setO, getO, ipD, mutOk, mutR, LIMv, hc, hadd]
  have hit := rg1_it (T := sysP.tb n) (ps := [0]) hm (by rw [LIMv]; omega)
  obtain ⟨xs, ρ', h1, h2, h3, h4⟩ := compLoop_inv (own := [9]) (bd := bindT [0] (.nm 9)) (t := ifsT .nil (ev (sysP.tb n) [0] .nil).t) (f := (ev (sysP.tb n) [0] p34_3).f) (Inv := fun ρ => ∃ b y, Bok b ∧ ρ = some (bagD b, 1) :: (nn 8 ++ y :: nn 3)) (P := fun d => ∃ i : Int, d = .int i) (Q := fun d => ∃ x l, d = .tup [Act.d x, tx l] ∧ PartOk x l) (by
    rintro d ρ ⟨i, rfl⟩ ⟨b, y, hb, rfl⟩
    obtain ⟨x, l, b', hc, hb', hx⟩ := part_f (n := n) hn (ps := [0]) (b := b) (r := nn 8 ++ some (.int i, 0) :: nn 3) hb
    refine ⟨some (bagD b, 1) :: (nn 8 ++ some (.int i, 0) :: nn 3), _, 0, _, ?_, rfl, hc, ⟨x, l, rfl, hx⟩, ⟨b', _, hb', rfl⟩⟩
    simp [nn, wipeR, List.replicate]) (natL 0 (1 + v.toNat)) (some (bagD b1, 1) :: nn 12) [] (by
    intro d hd
    obtain ⟨i, _, rfl⟩ := List.mem_map.mp hd
    exact ⟨_, rfl⟩) ⟨b1, none, hb1, rfl⟩ (fun _ h => nomatch h) (by simp only [natL, List.length_map, List.length_range', List.length_nil, LIMv]; omega)
  obtain ⟨b2, y, hb2, rfl⟩ := h2
  have hlc := lc_f (T := sysP.tb n) (ps := [0]) (own := [9]) (t := .nm 9) (ifs := .nil) (e := p34_3) hit h1
  refine ⟨xs, b2, hlc, hb2, ?_, h3⟩
  simp only [natL, List.length_map, List.length_range', List.length_nil] at h4
  omega
/-- the texts of the parts -/
theorem lc34b (n : Nat) (b : B) (ds : List D) (hd : Parts ds) (hl : ds.length ≤ 5) : ∃ (ls : List (List Nat)), (ev (sysP.tb n) [0] p34_2).f (some (bagD b, 1) :: some (.lst ds, 1) :: nn 11) = .ok (.lst (ls.map tx), 1) (some (bagD b, 1) :: some (.lst ds, 0) :: nn 11) ∧ ls.length ≤ 5 ∧ ∀ l ∈ ls, Pl l ∧ l.length ≤ 100 := by
  obtain ⟨xs, ρ', h1, h2, h3, h4⟩ := compLoop_inv (own := [6, 7]) (bd := bindT [0] (.tp (.cons (.nm 6) (.cons (.nm 7) .nil)))) (t := ifsT .nil (ev (sysP.tb n) [0] .nil).t) (f := (ev (sysP.tb n) [0] (.var 7)).f) (Inv := fun ρ => ∃ y z, ρ = some (bagD b, 1) :: some (.lst ds, 0) :: (nn 4 ++ y :: z :: nn 5)) (P := fun d => ∃ x l, d = .tup [Act.d x, tx l] ∧ PartOk x l) (Q := fun d => ∃ l, d = tx l ∧ (Pl l ∧ l.length ≤ 100)) (by
    rintro d ρ ⟨x, l, rfl, hx⟩ ⟨y, z, rfl⟩
    refine ⟨some (bagD b, 1) :: some (.lst ds, 0) :: (nn 4 ++ some (x.d, 0) :: some (tx l, 0) :: nn 5), tx l, 0, some (bagD b, 1) :: some (.lst ds, 0) :: (nn 4 ++ some (x.d, 0) :: some (tx l, 0) :: nn 5), ?_, rfl, ?_, ⟨l, rfl, hx.pl, hx.len⟩, ⟨_, _, rfl⟩⟩
    · simp [nn, wipeR, List.replicate]
    · simp [nn, varF, List.replicate]) ds (some (bagD b, 1) :: some (.lst ds, 0) :: nn 11) [] hd ⟨none, none, rfl⟩ (fun _ h => nomatch h) (by simp only [List.length_nil, LIMv]; omega)
  obtain ⟨ls, rfl, hls⟩ := all_tx h3
  obtain ⟨y, z, rfl⟩ := h2
  have hit : (ev (sysP.tb n) [0] (.var 1)).it (some (bagD b, 1) :: some (.lst ds, 1) :: nn 11) = .ok ds (some (bagD b, 1) :: some (.lst ds, 0) :: nn 11) := rfl
  have hlc := lc_f (T := sysP.tb n) (ps := [0]) (own := [6, 7]) (t := .tp (.cons (.nm 6) (.cons (.nm 7) .nil))) (ifs := .nil) (e := .var 7) hit h1
  refine ⟨ls, hlc, ?_, hls⟩
  simp only [List.length_map, List.length_nil] at h4
  omega
/-- _law_is_gone_right -/
theorem r34 (n : Nat) (hn : 33 < n) (b : B) (hb : Bok b) : ∃ b', runDef (sysP.tb n) d34 [bagD b] = .ok (.bl true) 0 [some (bagD b', 1)] ∧ Bok b' := by
  have hps : d34.ps = [0] := rfl
  have e : startR d34 [bagD b] = some (bagD b, 1) :: nn 12 := rfl
  have hseq : ∀ x y ρ, evS (sysP.tb n) [0] (.seq x y) ρ = (evS (sysP.tb n) [0] x ρ).seq (evS (sysP.tb n) [0] y) := fun _ _ _ => rfl
  obtain ⟨ds, b1, g1, hb1, hl1, hd⟩ := lc34 n (by omega) b hb
  obtain ⟨ls, g2, hl2, hls⟩ := lc34b n b1 ds hd hl1
  have hj := join_tx (ys := ls) (k := 100) (fun y hy => (hls y hy).2) (by omega)
  have hf := flat_len (k := 100) (ls := ls) fun y hy => (hls y hy).2
  have hfp := flat_pl fun l hl => (hls l hl).1
  have g3 : (ev (sysP.tb n) [0] (.mth .join (.str (Str.ofString "")) (.cons p34_2 .nil))).f (some (bagD b1, 1) :: some (.lst ds, 1) :: nn 11) = .ok (tx ls.flatten, 0) (some (bagD b1, 1) :: some (.lst ds, 0) :: nn 11) := by
    have o2 : (ev (sysP.tb n) [0] p34_2).o (some (bagD b1, 1) :: some (.lst ds, 1) :: nn 11) = .ok (.v (.lst (ls.map tx))) (some (bagD b1, 1) :: some (.lst ds, 0) :: nn 11) := by
      unfold p34_2 at g2 ⊢
      rw [o_lc, g2]; rfl
    rw [f_mth, o_str, f_str]
    generalize ls.map tx = W at *
    simp [varO, varF, frzV, tstO, lift_some, bltO, rdOs, rdO, val1, val2, bool0, optI, seqItems, truD, ifsT, bind_ok', then_ok, seq_nx, seq_rt, seq_bk, seq_ct, setO, getO, ipD, mutOk, mutR, LIMv, o2, mthOk, mthL, mthD, hj]
  obtain ⟨t1, b2, g4, hb2, k2, p2⟩ := spoil_f (n := n) (by omega) (k := 0) g3 hb1 (by omega) hfp
  obtain ⟨t, b3, g5, hb3, k3, p3⟩ := spoil_f (n := n) (by omega) (k := 0) g4 hb2 (by omega) p2
  obtain ⟨S3, S4, hbody, e3, e4⟩ : ∃ S3 S4, d34.body = .seq (.asg (.nm 1) p34_4) (.seq (.asg (.nm 2) (.call 21 (.cons (.var 0) (.cons (.call 21 (.cons (.var 0) (.cons (.mth .join (.str (Str.ofString "")) (.cons p34_2 .nil)) .nil))) .nil)))) (.seq S3 (.seq S4 (.seq p34_1 (.seq (.ret (.bl true)) .nil))))) ∧
      S3 = .par [3, 4, 5] (.cons (.mk 0 23 (.cons (.var 2) .nil)) (.cons (.int 0) (.cons (.bl true) .nil))) ∧ S4 = .ite (.cmp .NotEq (.tup (.cons (.fld (.var 3) (Str.ofString "text")) (.cons (.fld (.var 3) (Str.ofString "at")) (.cons (.fld (.var 3) (Str.ofString "good")) .nil)))) (.tup (.cons (.var 2) (.cons (.int 0) (.cons (.bl true) .nil))))) (.seq (.ret (.bl false)) .nil) .nil := ⟨_, _, rfl, rfl, rfl⟩
  have h1 : evS (sysP.tb n) [0] (.asg (.nm 1) p34_4) (some (bagD b, 1) :: nn 12) = .nx (some (bagD b1, 1) :: some (.lst ds, 1) :: nn 11) := by
    rw [S_asg, g1, then_ok]; rfl
  have h2 : evS (sysP.tb n) [0] (.asg (.nm 2) (.call 21 (.cons (.var 0) (.cons (.call 21 (.cons (.var 0) (.cons (.mth .join (.str (Str.ofString "")) (.cons p34_2 .nil)) .nil))) .nil)))) (some (bagD b1, 1) :: some (.lst ds, 1) :: nn 11) = .nx (some (bagD b3, 1) :: some (.lst ds, 0) :: some (tx t, 0) :: nn 10) := by
    rw [S_asg, g5, then_ok]; rfl
  have hmk : callR (sysP.tb n) 23 [.s 13, .v (tx t)] [some (bagD b3, 1), some (.lst ds, 0), some (tx t, 0), none, none, none, none, none, none, none, none, none, none, some (.ins 0 [], 1)] = .ok (.non, 0) [some (bagD b3, 1), some (.lst ds, 0), some (tx t, 0), none, none, none, none, none, none, none, none, none, none, some (scD t 0 true, 1)] :=
    call_ok (io23 n) rfl rfl ((congrFun (run23 (n := n) (by omega)) _).trans (r23 _ t)) rfl
  have h3 : evS (sysP.tb n) [0] S3 (some (bagD b3, 1) :: some (.lst ds, 0) :: some (tx t, 0) :: nn 10) = .nx (s34 b3 (some (.lst ds, 0)) t 0 true none none none none none none none) := by
    simp only [nn, List.replicate]
    simp [varO, varF, frzV, tstO, lift_some, bltO, rdOs, rdO, val1, val2, bool0, optI, seqItems, truD, ifsT, bind_ok', then_ok, seq_nx, seq_rt, seq_bk, seq_ct, setO, getO, ipD, mutOk, mutR, LIMv, e3, hmk, mkO, parT, s34]
  have h4 : evS (sysP.tb n) [0] S4 (s34 b3 (some (.lst ds, 0)) t 0 true none none none none none none none) = .nx (s34 b3 (some (.lst ds, 0)) t 0 true none none none none none none none) := by
    have hq := eq3 p3 0 true
    simp [varO, varF, frzV, tstO, lift_some, bltO, rdOs, rdO, val1, val2, bool0, optI, seqItems, truD, ifsT, bind_ok', then_ok, seq_nx, seq_rt, seq_bk, seq_ct, setO, getO, ipD, mutOk, mutR, LIMv, e4, s34, fld_text, fld_at, fld_good, hq]
  have hcat : binD .Add (.lst ds) (.lst [.tup [.tup [.str (Str.ofString "end")], .str (Str.ofString "")]]) = some (.lst (ds ++ [.tup [Act.fin.d, tx []]]), 1) := by
    have : ds.length + 1 ≤ LIM := by rw [LIMv]; omega
    show (if _ then _ else _) = _
    rw [if_pos (by simpa using this)]; rfl
  have hit : (ev (sysP.tb n) [0] (.bin .Add (.var 1) (.lst (.cons (.tup (.cons (.tup (.cons (.str (Str.ofString "end")) .nil)) (.cons (.str (Str.ofString "")) .nil))) .nil)))).it (s34 b3 (some (.lst ds, 0)) t 0 true none none none none none none none) = .ok (ds ++ [.tup [Act.fin.d, tx []]]) (s34 b3 (some (.lst ds, 0)) t 0 true none none none none none none none) := by
    simp [varO, varF, frzV, tstO, lift_some, bltO, rdOs, rdO, val1, val2, bool0, optI, seqItems, truD, ifsT, bind_ok', then_ok, seq_nx, seq_rt, seq_bk, seq_ct, setO, getO, ipD, mutOk, mutR, LIMv, s34, hcat]
  obtain ⟨r, h5⟩ := l34 n hn b3 (some (.lst ds, 0)) t (by omega) p3 (ds ++ [.tup [Act.fin.d, tx []]]) 0 true none none none none none none none (fun d hd' => by
    rcases List.mem_append.mp hd' with h | h
    · obtain ⟨x, l, h1, h2⟩ := hd d h
      exact ⟨x, tx l, h1, h2.good⟩
    · rw [List.mem_singleton.mp h]
      exact ⟨.fin, tx [], rfl, trivial, trivial, trivial, trivial⟩) (by simp only [List.length_append, List.length_cons, List.length_nil]; omega)
  have h5' : evS (sysP.tb n) [0] p34_1 (s34 b3 (some (.lst ds, 0)) t 0 true none none none none none none none) = .nx (some (bagD b3, 1) :: r) := by
    rw [p34_1, S_for, hit, then_ok, h5]
  refine ⟨b3, ?_, hb3⟩
  rw [runDef_eq rfl, hps, e, hbody, hseq, h1, seq_nx, hseq, h2, seq_nx, hseq, h3, seq_nx, hseq, h4, seq_nx, hseq, h5', seq_nx]
  simp [R_bl, then_ok, seq_rt, finR, maskR, d34]
end EvL
end
section
set_option Elab.async false
set_option linter.all false
set_option maxRecDepth 100000
set_option maxHeartbeats 4000000
namespace EvL
open PySem PySem.Spec L2 Ev
/-- acts one behind another: what is told, where the scan stands -/
def seqGo (t : List Nat) : List Act → Nat → Bool → List D × Nat × Bool
  | [], a, g => ([], a, g)
  | x :: xs, a, g => (if x.shown then (x.go t a g).1 :: (seqGo t xs (x.go t a g).2.1 (x.go t a g).2.2).1 else (seqGo t xs (x.go t a g).2.1 (x.go t a g).2.2).1, (seqGo t xs (x.go t a g).2.1 (x.go t a g).2.2).2)
def shp : Nat → List Nat × List Act
  | 0 => (ofS "fold", [.word (ofS "fold "), .name])
  | 1 => (ofS "states", [.word (ofS "states "), .count 1 4])
  | 2 => (ofS "event", [.word (ofS "event "), .name, .row 4 0 3])
  | 3 => (ofS "tells", [.word (ofS "tells"), .row 4 0 9])
  | 4 => (ofS "past", [.word (ofS "past "), .name, .word (ofS " of "), .name])
  | 5 => (ofS "asks", [.word (ofS "asks "), .one (ofS "answers") [ofS "moments", ofS "counts"]])
  | _ => (ofS "end", [.word (ofS "end")])
def fns : List Nat := [6, 9, 11, 12, 13, 16, 17]
def fnOf (k : Nat) : Nat := fns.getD k 0
theorem shp_good : ∀ k, k < 7 → (∀ x ∈ (shp k).2, x.good) ∧ (shp k).2.length ≤ 4 ∧ Leaf (tx (shp k).1) := by
  have hw : ∀ s : String, ofS s ≠ [] → (ofS s).length ≤ 100 → (∀ c ∈ ofS s, c < 128) → (Act.word (ofS s)).good := fun s h1 h2 h3 => good_word h1 h2 h3
  have hn : Act.name.good := ⟨trivial, trivial, trivial, trivial⟩
  intro k hk
  have : k = 0 ∨ k = 1 ∨ k = 2 ∨ k = 3 ∨ k = 4 ∨ k = 5 ∨ k = 6 := by omega
  rcases this with rfl | rfl | rfl | rfl | rfl | rfl | rfl
  · refine ⟨fun x hx => ?_, by decide, leaf_tx (by unfold Pl; decide +kernel) (by decide +kernel)⟩
    simp only [shp, List.mem_cons, List.not_mem_nil, or_false] at hx
    rcases hx with rfl | rfl
    · exact hw _ (by decide +kernel) (by decide +kernel) (by decide +kernel)
    · exact hn
  · refine ⟨fun x hx => ?_, by decide, leaf_tx (by unfold Pl; decide +kernel) (by decide +kernel)⟩
    simp only [shp, List.mem_cons, List.not_mem_nil, or_false] at hx
    rcases hx with rfl | rfl
    · exact hw _ (by decide +kernel) (by decide +kernel) (by decide +kernel)
    · exact ⟨trivial, trivial, trivial, trivial⟩
  · refine ⟨fun x hx => ?_, by decide, leaf_tx (by unfold Pl; decide +kernel) (by decide +kernel)⟩
    simp only [shp, List.mem_cons, List.not_mem_nil, or_false] at hx
    rcases hx with rfl | rfl | rfl
    · exact hw _ (by decide +kernel) (by decide +kernel) (by decide +kernel)
    · exact hn
    · exact ⟨by show 4 ≤ 100; omega, trivial, trivial, trivial⟩
  · refine ⟨fun x hx => ?_, by decide, leaf_tx (by unfold Pl; decide +kernel) (by decide +kernel)⟩
    simp only [shp, List.mem_cons, List.not_mem_nil, or_false] at hx
    rcases hx with rfl | rfl
    · exact hw _ (by decide +kernel) (by decide +kernel) (by decide +kernel)
    · exact ⟨by show 4 ≤ 100; omega, trivial, trivial, trivial⟩
  · refine ⟨fun x hx => ?_, by decide, leaf_tx (by unfold Pl; decide +kernel) (by decide +kernel)⟩
    simp only [shp, List.mem_cons, List.not_mem_nil, or_false] at hx
    rcases hx with rfl | rfl | rfl | rfl
    · exact hw _ (by decide +kernel) (by decide +kernel) (by decide +kernel)
    · exact hn
    · exact hw _ (by decide +kernel) (by decide +kernel) (by decide +kernel)
    · exact hn
  · refine ⟨fun x hx => ?_, by decide, leaf_tx (by unfold Pl; decide +kernel) (by decide +kernel)⟩
    simp only [shp, List.mem_cons, List.not_mem_nil, or_false] at hx
    rcases hx with rfl | rfl
    · exact hw _ (by decide +kernel) (by decide +kernel) (by decide +kernel)
    · exact good_one (by decide) (by unfold Pl; decide +kernel) (by unfold PF; decide +kernel)
  · refine ⟨fun x hx => ?_, by decide, leaf_tx (by unfold Pl; decide +kernel) (by decide +kernel)⟩
    simp only [shp, List.mem_cons, List.not_mem_nil, or_false] at hx
    rw [hx]
    exact hw _ (by decide +kernel) (by decide +kernel) (by decide +kernel)
/-- each shape on a scan -/
theorem shape_run (t : List Nat) (a : Nat) (g : Bool) (hl : t.length ≤ 100000) : ∀ k, k < 7 → ∃ d, ds[fnOf k]? = some d ∧ d.io = [true] ∧ runDef (sysP.tb (fnOf k)) d [scD t a g] = .ok (.tup (tx (shp k).1 :: (seqGo t (shp k).2 a g).1)) 0 [some (scG t (seqGo t (shp k).2 a g).2, 1)] := by
  intro k hk
  have : k = 0 ∨ k = 1 ∨ k = 2 ∨ k = 3 ∨ k = 4 ∨ k = 5 ∨ k = 6 := by omega
  rcases this with rfl | rfl | rfl | rfl | rfl | rfl | rfl
  · exact ⟨d6, rfl, rfl, r6 6 (by omega) t a g hl⟩
  · exact ⟨d9, rfl, rfl, r9 9 (by omega) t a g hl⟩
  · exact ⟨d11, rfl, rfl, r11 11 (by omega) t a g hl _ _ rfl rfl⟩
  · exact ⟨d12, rfl, rfl, r12 12 (by omega) t a g hl⟩
  · exact ⟨d13, rfl, rfl, r13 13 (by omega) t a g hl _ _ _ rfl rfl rfl⟩
  · exact ⟨d16, rfl, rfl, r16 16 (by omega) t a g hl _ rfl⟩
  · exact ⟨d17, rfl, rfl, r17 17 (by omega) t a g hl⟩
theorem fnOf_lt : ∀ k, k < 7 → fnOf k < 18 ∧ 5 < fnOf k := by decide
/-- a line fitted -/
def fitGo (t : List Nat) : List Nat → Nat → D
  | [], b => .tup [.non, .int b]
  | k :: ks, b => if ((seqGo t (shp k).2 0 true).2.2 && decide ((seqGo t (shp k).2 0 true).2.1 = t.length)) = true then .tup [.tup (tx (shp k).1 :: (seqGo t (shp k).2 0 true).1), .int 0] else fitGo t ks (max b (seqGo t (shp k).2 0 true).2.1)
end EvL
end
section
set_option Elab.async false
set_option linter.all false
set_option maxRecDepth 100000
set_option maxHeartbeats 4000000
namespace EvL
open PySem PySem.Spec L2 Ev
theorem call_shape {n k : Nat} (hk : k < 7) (hn : 18 < n) {ρ : Rho} {i : Nat} {t : List Nat} {a : Nat} {g : Bool} (hρ : ρ[i]? = some (some (scD t a g, 1))) (hl : t.length ≤ 100000) :
    (sysP.tb n).io (fnOf k) = [true] ∧ callR (sysP.tb n) (fnOf k) [.s i] ρ = .ok (.tup (tx (shp k).1 :: (seqGo t (shp k).2 a g).1), 0) (ρ.set i (some (scG t (seqGo t (shp k).2 a g).2, 1))) := by
  obtain ⟨d, h1, h2, h3⟩ := shape_run t a g hl k hk
  have hlt := fnOf_lt k hk
  have hio : (sysP.tb n).io (fnOf k) = [true] := by rw [ioP h1, h2]
  refine ⟨hio, call_ok hio rfl ?_ ((congrFun (runP (n := n) (by omega) h1) _).trans h3) rfl⟩
  simp [rdOs, rdO, hρ]
theorem ins_ok4' (t : List Nat) (a : Int) (g : Bool) (m : Str) (x0 x1 x2 x3 x5 : Slt) (h : m ≠ Str.ofString "text" ∧ m ≠ Str.ofString "at" ∧ m ≠ Str.ofString "good") : insOk 0 m 4 [x0, x1, x2, x3, some (scD t a g, 1), x5] = true := ins_ok4 t a g m [] h
theorem max_nat (b a : Nat) : blt2 .max (.int (b : Int)) (.int (a : Int)) = some (.int ((max b a : Nat) : Int), 0) := by
  rw [max_int]
  congr 3
  split <;> omega
abbrev s36 (t : List Nat) (S : Slt) (b : Nat) (x y z : Slt) : Rho := [some (tx t, 0), S, some (.int b, 0), x, y, z]
theorem t36 (n : Nat) (hn : 24 < n) (t : List Nat) (S : Slt) (b : Nat) (k : Nat) (y z : Slt) (hk : k < 7) (hl : t.length ≤ 100000) : ∃ y' z', evS (sysP.tb n) [] p36_0 (s36 t S b (some (.fn (fnOf k), 0)) y z) =
    if ((seqGo t (shp k).2 0 true).2.2 && decide ((seqGo t (shp k).2 0 true).2.1 = t.length)) = true then .rt (.tup [.tup (tx (shp k).1 :: (seqGo t (shp k).2 0 true).1), .int 0]) 0 (s36 t S b (some (.fn (fnOf k), 0)) y' z') else .nx (s36 t S (max b (seqGo t (shp k).2 0 true).2.1) (some (.fn (fnOf k), 0)) y' z') := by
  have hmk : callR (sysP.tb n) 23 [.s 6, .v (tx t)] [some (tx t, 0), S, some (.int b, 0), some (.fn (fnOf k), 0), y, z, some (.ins 0 [], 1)] = .ok (.non, 0) [some (tx t, 0), S, some (.int b, 0), some (.fn (fnOf k), 0), y, z, some (scD t 0 true, 1)] :=
    call_ok (io23 n) rfl rfl ((congrFun (run23 (n := n) (by omega)) _).trans (r23 _ t)) rfl
  obtain ⟨hio, hc⟩ := call_shape (n := n) (k := k) hk (by omega) (ρ := [some (tx t, 0), S, some (.int b, 0), some (.fn (fnOf k), 0), some (scD t ((0 : Nat) : Int) true, 1), z]) (i := 4) (t := t) (a := 0) (g := true) rfl hl
  have hlt := fnOf_lt k hk
  have hjn : fnOf k < (sysP.tb n).n := by rw [nP]; omega
  have hsc : scD t ((0 : Nat) : Int) true = scD t 0 true := rfl
  rw [hsc] at hc
  generalize hq : seqGo t (shp k).2 0 true = q at *
  obtain ⟨vs, a, g⟩ := q
  have hsg : scG t (a, g) = scD t a g := rfl
  simp only [hsg] at hc
  have hi := ins_ok4' t a g (Str.ofString "take_end")
  generalize tx (shp k).1 = w at *
  generalize fnOf k = j at *
  have hc24 := call24 (n := n) hn (ρ := [some (tx t, 0), S, some (.int b, 0), some (.fn j, 0), some (scD t a g, 1), some (.tup (w :: vs), 0)]) (i := 4) (t := t) (a := a) (g := g) rfl hl
  have hio24 : ((sysP.tb n).io 24).tail = [] := by rw [io24]; rfl
  have hins : insOk 0 (Str.ofString "take_end") 4 [some (tx t, 0), S, some (.int b, 0), some (.fn j, 0), some (scD t a g, 1), some (.tup (w :: vs), 0)] = true := hi _ _ _ _ _ (by decide +kernel)
  have hmax := max_nat b a
  refine ⟨some (scD t a (g && decide (a = t.length)), 1), some (.tup (w :: vs), 0), ?_⟩
  simp only [s36]
  by_cases h : (g && decide (a = t.length)) = true
  · rw [if_pos h]
    rw [h] at hc24 ⊢
    simp [varO, varF, frzV, tstO, lift_some, bltO, rdOs, rdO, val1, val2, bool0, optI, seqItems, truD, ifsT, bind_ok', then_ok, seq_nx, seq_rt, seq_bk, seq_ct, setO, getO, ipD, mutOk, mutR, LIMv, f_call, p36_0, hmk, mkO, hjn, hio, hc, hins, hio24, hc24, fld_good]
  · rw [if_neg h]
    have h' : (g && decide (a = t.length)) = false := by simpa using h
    rw [h'] at hc24 ⊢
    simp [varO, varF, frzV, tstO, lift_some, bltO, rdOs, rdO, val1, val2, bool0, optI, seqItems, truD, ifsT, bind_ok', then_ok, seq_nx, seq_rt, seq_bk, seq_ct, setO, getO, ipD, mutOk, mutR, LIMv, f_call, p36_0, hmk, mkO, hjn, hio, hc, hins, hio24, hc24, fld_good, fld_at, bltD, hmax]
def B36 : CS := .seq (.ret (.tup (.cons .non (.cons (.var 2) .nil)))) .nil
theorem l36 (n : Nat) (hn : 24 < n) (t : List Nat) (S : Slt) (hl : t.length ≤ 100000) : ∀ (ks : List Nat) (b : Nat) (x y z : Slt), (∀ k ∈ ks, k < 7) → ∃ b' x' y' z', (forLoop (bindT [] (.nm 3)) (evS (sysP.tb n) [] p36_0) (ks.map fun k => D.fn (fnOf k)) (s36 t S b x y z)).seq (evS (sysP.tb n) [] B36) = .rt (fitGo t ks b) 0 (s36 t S b' x' y' z')
  | [], b, x, y, z, _ => ⟨b, x, y, z, by
    simp only [List.map_nil, forLoop, seq_nx, fitGo, B36, s36]
    simp [varO, varF, frzV, tstO, lift_some, bltO, rdOs, rdO, val1, val2, bool0, optI, seqItems, truD, ifsT, bind_ok', then_ok, seq_nx, seq_rt, seq_bk, seq_ct, setO, getO, ipD, mutOk, mutR, LIMv]⟩
  | k :: ks, b, x, y, z, hk => by
    have hbd : bindT [] (.nm 3) (.fn (fnOf k)) (s36 t S b x y z) = some (s36 t S b (some (.fn (fnOf k), 0)) y z) := by simp [s36]
    obtain ⟨y', z', h⟩ := t36 n hn t S b k y z (hk k List.mem_cons_self) hl
    simp only [List.map_cons, forLoop, hbd, h, fitGo]
    by_cases hf : ((seqGo t (shp k).2 0 true).2.2 && decide ((seqGo t (shp k).2 0 true).2.1 = t.length)) = true
    · refine ⟨b, some (.fn (fnOf k), 0), y', z', ?_⟩
      simp only [if_pos hf, seq_rt]
    · obtain ⟨b1, x1, y1, z1, ih⟩ := l36 n hn t S hl ks (max b (seqGo t (shp k).2 0 true).2.1) (some (.fn (fnOf k), 0)) y' z' (fun j hj => hk j (List.mem_cons_of_mem _ hj))
      refine ⟨b1, x1, y1, z1, ?_⟩
      simp only [if_neg hf]
      exact ih
/-- fitted -/
theorem r36 (n : Nat) (hn : 24 < n) (t : List Nat) (ks : List Nat) (hk : ∀ k ∈ ks, k < 7) (hl : t.length ≤ 100000) : runDef (sysP.tb n) d36 [tx t, .lst (ks.map fun k => D.fn (fnOf k))] = .ok (fitGo t ks 0) 0 [none, none] := by
  have hps : d36.ps = [] := rfl
  have e : startR d36 [tx t, .lst (ks.map fun k => D.fn (fnOf k))] = [some (tx t, 0), some (.lst (ks.map fun k => D.fn (fnOf k)), 0), none, none, none, none] := rfl
  have hseq : ∀ x y ρ, evS (sysP.tb n) [] (.seq x y) ρ = (evS (sysP.tb n) [] x ρ).seq (evS (sysP.tb n) [] y) := fun _ _ _ => rfl
  have hbody : d36.body = .seq (.asg (.nm 2) (.int 0)) (.seq (.for_ (.nm 3) (.var 1) p36_0) B36) := rfl
  obtain ⟨b', x', y', z', h⟩ := l36 n hn t (some (.lst (ks.map fun k => D.fn (fnOf k)), 0)) hl ks 0 none none none hk
  generalize hW : D.lst (ks.map fun k => D.fn (fnOf k)) = W at *
  have h1 : evS (sysP.tb n) [] (.asg (.nm 2) (.int 0)) [some (tx t, 0), some (W, 0), none, none, none, none] = .nx (s36 t (some (W, 0)) 0 none none none) := rfl
  have hit : (ev (sysP.tb n) [] (.var 1)).it (s36 t (some (W, 0)) 0 none none none) = .ok (ks.map fun k => D.fn (fnOf k)) (s36 t (some (W, 0)) 0 none none none) := by
    subst hW
    rfl
  rw [runDef_eq rfl, hps, e, hbody, hseq, h1, seq_nx, hseq, S_for, hit, then_ok, h]
  rfl
end EvL
end
section
set_option Elab.async false
set_option linter.all false
set_option maxRecDepth 100000
set_option maxHeartbeats 4000000
namespace EvL
open PySem PySem.Spec L2 Ev
theorem seqGo_bad (t : List Nat) (a : Nat) : ∀ (xs : List Act), (∀ x ∈ xs, x.good) → (seqGo t xs a false).2 = (a, false)
  | [], _ => rfl
  | x :: xs, h => by
    have h1 := go_bad t a x (h x List.mem_cons_self).2.2.1
    simp only [seqGo, h1]
    exact seqGo_bad t a xs fun y hy => h y (List.mem_cons_of_mem _ hy)
abbrev s37 (t : List Nat) (S : Slt) (b : Nat) (w A : Slt) (a : Nat) (g : Bool) (f : List D) (x8 x9 x10 x11 : Slt) : Rho := [some (tx t, 0), S, some (.int b, 0), w, A, some (.int a, 0), some (.bl g, 0), some (.lst f, 1), x8, x9, x10, x11]
theorem ext_lst (f es : List D) (h : f.length + es.length ≤ LIM) : mutD .extend (.lst f) [.lst es] = some (.non, .lst (f ++ es)) := by
  show (if f.length + es.length ≤ LIM then _ else _) = _
  rw [if_pos h]
theorem t37 (n : Nat) (hn : 32 < n) (t : List Nat) (S : Slt) (b : Nat) (w A : Slt) (a : Nat) (f : List D) (x : Act) (x9 x10 x11 : Slt) (hl : t.length ≤ 100000) (hp : Pl t) (hx : x.good) (hf : f.length ≤ 1000) :
    ∃ f' y9 y10 y11, evS (sysP.tb n) [] p37_0 (s37 t S b w A a true f (some (x.d, 0)) x9 x10 x11) = .nx (s37 t S b w A (x.go t a true).2.1 (x.go t a true).2.2 f' (some (x.d, 0)) y9 y10 y11) ∧ f'.length ≤ f.length + 1 ∧ ((x.go t a true).2.2 = true → f' = f ++ (if x.shown then [(x.go t a true).1] else [])) := by
  obtain ⟨o, good, shown, v, h1, h2, h3, h4, h5⟩ := go_law t a x hx.2.1
  have hct := fun ρ => call32 (n := n) hn (ρ := ρ) (t := t) (a := a) (x := x) hl hp hx
  rw [h1] at hct
  rw [h2, ← h5]
  have e : ((a + o : Nat) : Int) = (a : Int) + (o : Int) := by omega
  have hadd : ∀ i j : Int, binD .Add (.int i) (.int j) = some (.int (i + j), 0) := fun _ _ => rfl
  have hxt := ext_lst f [v] (by rw [LIMv]; simp only [List.length_cons, List.length_nil]; omega)
  have hxt0 := ext_lst f [] (by rw [LIMv]; simp only [List.length_nil]; omega)
  refine ⟨f ++ (if shown then [v] else []), some (.int o, 0), some (v, 0), some (.bl shown, 0), ?_, ?_, ?_⟩
  · generalize x.d = X at *
    simp only [s37, e]
    cases shown with
    | true => simp [varO, varF, frzV, tstO, lift_some, bltO, rdOs, rdO, val1, val2, bool0, optI, seqItems, truD, ifsT, bind_ok', then_ok, seq_nx, seq_rt, seq_bk, seq_ct, setO, getO, ipD, mutOk, mutR, LIMv, f_call, p37_0, io32, hct, hadd, hxt]
    | false =>
      rw [List.append_nil] at hxt0
      simp [varO, varF, frzV, tstO, lift_some, bltO, rdOs, rdO, val1, val2, bool0, optI, seqItems, truD, ifsT, bind_ok', then_ok, seq_nx, seq_rt, seq_bk, seq_ct, setO, getO, ipD, mutOk, mutR, LIMv, f_call, p37_0, io32, hct, hadd, hxt0]
  · cases shown <;> simp
  · intro hg
    cases shown with
    | true => rw [h3 hg rfl]
    | false => rfl
theorem t37b (T : Tb) (t : List Nat) (S : Slt) (b : Nat) (w A : Slt) (a : Nat) (f : List D) (x8 x9 x10 x11 : Slt) : evS T [] p37_0 (s37 t S b w A a false f x8 x9 x10 x11) = .nx (s37 t S b w A a false f x8 x9 x10 x11) := rfl
theorem l37b (T : Tb) (t : List Nat) (S : Slt) (b : Nat) (w A : Slt) (a : Nat) (f : List D) : ∀ (ds : List D) (x8 x9 x10 x11 : Slt), ∃ y8, forLoop (bindT [] (.nm 8)) (evS T [] p37_0) ds (s37 t S b w A a false f x8 x9 x10 x11) = .nx (s37 t S b w A a false f y8 x9 x10 x11)
  | [], x8, x9, x10, x11 => ⟨x8, rfl⟩
  | d :: ds, x8, x9, x10, x11 => by
    have hbd : bindT [] (.nm 8) d (s37 t S b w A a false f x8 x9 x10 x11) = some (s37 t S b w A a false f (some (d, 0)) x9 x10 x11) := by simp [s37]
    obtain ⟨y8, h⟩ := l37b T t S b w A a f ds (some (d, 0)) x9 x10 x11
    exact ⟨y8, by simp only [forLoop, hbd, t37b, h]⟩
/-- the acts of one shape -/
theorem l37 (n : Nat) (hn : 32 < n) (t : List Nat) (S : Slt) (b : Nat) (w A : Slt) (hl : t.length ≤ 100000) (hp : Pl t) : ∀ (xs : List Act) (a : Nat) (f : List D) (x8 x9 x10 x11 : Slt), (∀ x ∈ xs, x.good) → f.length + xs.length ≤ 1000 →
    ∃ f' y8 y9 y10 y11, forLoop (bindT [] (.nm 8)) (evS (sysP.tb n) [] p37_0) (xs.map Act.d) (s37 t S b w A a true f x8 x9 x10 x11) = .nx (s37 t S b w A (seqGo t xs a true).2.1 (seqGo t xs a true).2.2 f' y8 y9 y10 y11) ∧ ((seqGo t xs a true).2.2 = true → f' = f ++ (seqGo t xs a true).1)
  | [], a, f, x8, x9, x10, x11, _, _ => ⟨f, x8, x9, x10, x11, rfl, fun _ => by simp [seqGo]⟩
  | x :: xs, a, f, x8, x9, x10, x11, hx, hf => by
    simp only [List.length_cons] at hf
    have hbd : bindT [] (.nm 8) x.d (s37 t S b w A a true f x8 x9 x10 x11) = some (s37 t S b w A a true f (some (x.d, 0)) x9 x10 x11) := by simp [s37]
    obtain ⟨f1, y9, y10, y11, h1, h2, h3⟩ := t37 n hn t S b w A a f x x9 x10 x11 hl hp (hx x List.mem_cons_self) (by omega)
    have hxs : ∀ y ∈ xs, y.good := fun y hy => hx y (List.mem_cons_of_mem _ hy)
    simp only [List.map_cons, forLoop, hbd, h1, seqGo]
    generalize x.go t a true = q at *
    obtain ⟨v, a1, g1⟩ := q
    simp only at h3 ⊢
    cases g1 with
    | true =>
      obtain ⟨f2, z8, z9, z10, z11, h4, h5⟩ := l37 n hn t S b w A hl hp xs a1 f1 (some (x.d, 0)) y9 y10 y11 hxs (by omega)
      refine ⟨f2, z8, z9, z10, z11, h4, fun hg => ?_⟩
      rw [h5 hg, h3 rfl]
      cases x.shown <;> simp
    | false =>
      obtain ⟨z8, h4⟩ := l37b (sysP.tb n) t S b w A a1 f1 (xs.map Act.d) (some (x.d, 0)) y9 y10 y11
      have hb := seqGo_bad t a1 xs hxs
      refine ⟨f1, z8, y9, y10, y11, ?_, fun hg => ?_⟩
      · rw [hb]; exact h4
      · rw [hb] at hg; cases hg
/-- a shape, as the law has it -/
def shpD (k : Nat) : D := .tup [tx (shp k).1, .lst ((shp k).2.map Act.d)]
def C37 : CS := match p37_2 with
  | .seq _ (.seq _ b) => b
  | _ => .nil
theorem p37_eq : p37_2 = .seq (.par [5, 6, 7] (.cons (.int 0) (.cons (.bl true) (.cons (.lst (.cons (.var 3) .nil)) .nil)))) (.seq (.for_ (.nm 8) (.var 4) p37_0) C37) := rfl
theorem u37 (n : Nat) (hn : 32 < n) (t : List Nat) (S : Slt) (b k : Nat) (x5 x6 x7 x8 x9 x10 x11 : Slt) (hk : k < 7) (hl : t.length ≤ 100000) (hp : Pl t) : ∃ y5 y6 y7 y8 y9 y10 y11, evS (sysP.tb n) [] p37_2 [some (tx t, 0), S, some (.int b, 0), some (tx (shp k).1, 0), some (.lst ((shp k).2.map Act.d), 0), x5, x6, x7, x8, x9, x10, x11] =
    if ((seqGo t (shp k).2 0 true).2.2 && decide ((seqGo t (shp k).2 0 true).2.1 = t.length)) = true then .rt (.tup [.tup (tx (shp k).1 :: (seqGo t (shp k).2 0 true).1), .int 0]) 0 [some (tx t, 0), S, some (.int b, 0), some (tx (shp k).1, 0), some (.lst ((shp k).2.map Act.d), 0), y5, y6, y7, y8, y9, y10, y11]
    else .nx [some (tx t, 0), S, some (.int (max b (seqGo t (shp k).2 0 true).2.1 : Nat), 0), some (tx (shp k).1, 0), some (.lst ((shp k).2.map Act.d), 0), y5, y6, y7, y8, y9, y10, y11] := by
  obtain ⟨hg1, hg2, _⟩ := shp_good k hk
  have hseq : ∀ x y ρ, evS (sysP.tb n) [] (.seq x y) ρ = (evS (sysP.tb n) [] x ρ).seq (evS (sysP.tb n) [] y) := fun _ _ _ => rfl
  obtain ⟨f', y8, y9, y10, y11, h2, h3⟩ := l37 n hn t S b (some (tx (shp k).1, 0)) (some (.lst ((shp k).2.map Act.d), 0)) hl hp (shp k).2 0 [tx (shp k).1] x8 x9 x10 x11 hg1 (by simp only [List.length_cons, List.length_nil]; omega)
  have h1 : evS (sysP.tb n) [] (.par [5, 6, 7] (.cons (.int 0) (.cons (.bl true) (.cons (.lst (.cons (.var 3) .nil)) .nil)))) [some (tx t, 0), S, some (.int b, 0), some (tx (shp k).1, 0), some (.lst ((shp k).2.map Act.d), 0), x5, x6, x7, x8, x9, x10, x11] = .nx (s37 t S b (some (tx (shp k).1, 0)) (some (.lst ((shp k).2.map Act.d), 0)) 0 true [tx (shp k).1] x8 x9 x10 x11) := by
    simp only [s37]
    simp [varO, varF, frzV, tstO, lift_some, bltO, rdOs, rdO, val1, val2, bool0, optI, seqItems, truD, ifsT, bind_ok', then_ok, seq_nx, seq_rt, seq_bk, seq_ct, setO, getO, ipD, mutOk, mutR, LIMv, parT]
  have hit : (ev (sysP.tb n) [] (.var 4)).it (s37 t S b (some (tx (shp k).1, 0)) (some (.lst ((shp k).2.map Act.d), 0)) 0 true [tx (shp k).1] x8 x9 x10 x11) = .ok ((shp k).2.map Act.d) (s37 t S b (some (tx (shp k).1, 0)) (some (.lst ((shp k).2.map Act.d), 0)) 0 true [tx (shp k).1] x8 x9 x10 x11) := rfl
  rw [p37_eq, hseq, h1, seq_nx, hseq, S_for, hit, then_ok, h2, seq_nx]
  generalize seqGo t (shp k).2 0 true = q at *
  obtain ⟨vs, a, g⟩ := q
  simp only at h3 ⊢
  have hlen := len_tx (l := t) (by omega)
  have hb1 : ∀ d, blt1 .len d = lenD d := fun _ => rfl
  have heq : cmpD .Eq (.int (a : Int)) (.int (t.length : Int)) = some (decide (a = t.length)) := by
    have : ((a : Int) = (t.length : Int)) = (a = t.length) := propext ⟨fun h => by omega, fun h => by omega⟩
    rw [int_eq]; simp only [this]
  have hmax := max_nat b a
  refine ⟨some (.int a, 0), some (.bl g, 0), some (.lst f', 1), y8, y9, y10, y11, ?_⟩
  generalize (shp k).2.map Act.d = W at *
  generalize tx (shp k).1 = w at *
  simp only [s37]
  cases g with
  | false =>
    rw [if_neg (by simp)]
    simp [varO, varF, frzV, tstO, lift_some, bltO, rdOs, rdO, val1, val2, bool0, optI, seqItems, truD, ifsT, bind_ok', then_ok, seq_nx, seq_rt, seq_bk, seq_ct, setO, getO, ipD, mutOk, mutR, LIMv, C37, p37_2, bltD, hb1, hlen, heq, hmax]
  | true =>
    have hf := h3 rfl
    subst hf
    by_cases h : a = t.length
    · rw [if_pos (by simp [h])]
      rw [decide_eq_true h] at heq
      have htl : ∀ ds, blt1 .tuple (.lst ds) = some (.tup ds, 0) := fun _ => rfl
      simp [varO, varF, frzV, tstO, lift_some, bltO, rdOs, rdO, val1, val2, bool0, optI, seqItems, truD, ifsT, bind_ok', then_ok, seq_nx, seq_rt, seq_bk, seq_ct, setO, getO, ipD, mutOk, mutR, LIMv, C37, p37_2, bltD, hb1, hlen, heq, htl]
    · rw [if_neg (by simp [h])]
      rw [decide_eq_false h] at heq
      simp [varO, varF, frzV, tstO, lift_some, bltO, rdOs, rdO, val1, val2, bool0, optI, seqItems, truD, ifsT, bind_ok', then_ok, seq_nx, seq_rt, seq_bk, seq_ct, setO, getO, ipD, mutOk, mutR, LIMv, C37, p37_2, bltD, hb1, hlen, heq, hmax]
end EvL
end
section
set_option Elab.async false
set_option linter.all false
set_option maxRecDepth 100000
set_option maxHeartbeats 4000000
namespace EvL
open PySem PySem.Spec L2 Ev
theorem l37o (n : Nat) (hn : 32 < n) (t : List Nat) (S : Slt) (hl : t.length ≤ 100000) (hp : Pl t) : ∀ (ks : List Nat) (b : Nat) (x3 x4 x5 x6 x7 x8 x9 x10 x11 : Slt), (∀ k ∈ ks, k < 7) → ∃ r, (forLoop (bindT [] (.tp (.cons (.nm 3) (.cons (.nm 4) .nil)))) (evS (sysP.tb n) [] p37_2) (ks.map shpD) [some (tx t, 0), S, some (.int b, 0), x3, x4, x5, x6, x7, x8, x9, x10, x11]).seq (evS (sysP.tb n) [] B36) = .rt (fitGo t ks b) 0 (some (tx t, 0) :: S :: r)
  | [], b, x3, x4, x5, x6, x7, x8, x9, x10, x11, _ => ⟨[some (.int b, 0), x3, x4, x5, x6, x7, x8, x9, x10, x11], by
    simp only [List.map_nil, forLoop, seq_nx, fitGo, B36]
    simp [varO, varF, frzV, tstO, lift_some, bltO, rdOs, rdO, val1, val2, bool0, optI, seqItems, truD, ifsT, bind_ok', then_ok, seq_nx, seq_rt, seq_bk, seq_ct, setO, getO, ipD, mutOk, mutR, LIMv]⟩
  | k :: ks, b, x3, x4, x5, x6, x7, x8, x9, x10, x11, hk => by
    have hbd : bindT [] (.tp (.cons (.nm 3) (.cons (.nm 4) .nil))) (shpD k) [some (tx t, 0), S, some (.int b, 0), x3, x4, x5, x6, x7, x8, x9, x10, x11] = some [some (tx t, 0), S, some (.int b, 0), some (tx (shp k).1, 0), some (.lst ((shp k).2.map Act.d), 0), x5, x6, x7, x8, x9, x10, x11] := by
      simp [shpD]
    obtain ⟨y5, y6, y7, y8, y9, y10, y11, h⟩ := u37 n hn t S b k x5 x6 x7 x8 x9 x10 x11 (hk k List.mem_cons_self) hl hp
    simp only [List.map_cons, forLoop, hbd, h, fitGo]
    by_cases hf : ((seqGo t (shp k).2 0 true).2.2 && decide ((seqGo t (shp k).2 0 true).2.1 = t.length)) = true
    · refine ⟨[some (.int b, 0), some (tx (shp k).1, 0), some (.lst ((shp k).2.map Act.d), 0), y5, y6, y7, y8, y9, y10, y11], ?_⟩
      simp only [if_pos hf, seq_rt]
    · obtain ⟨r, ih⟩ := l37o n hn t S hl hp ks (max b (seqGo t (shp k).2 0 true).2.1) (some (tx (shp k).1, 0)) (some (.lst ((shp k).2.map Act.d), 0)) y5 y6 y7 y8 y9 y10 y11 (fun j hj => hk j (List.mem_cons_of_mem _ hj))
      refine ⟨r, ?_⟩
      simp only [if_neg hf]
      exact ih
/-- _law_fitted -/
theorem r37 (n : Nat) (hn : 32 < n) (t : List Nat) (ks : List Nat) (hk : ∀ k ∈ ks, k < 7) (hl : t.length ≤ 100000) (hp : Pl t) : runDef (sysP.tb n) d37 [tx t, .lst (ks.map shpD)] = .ok (fitGo t ks 0) 0 [none, none] := by
  have hps : d37.ps = [] := rfl
  have e : startR d37 [tx t, .lst (ks.map shpD)] = [some (tx t, 0), some (.lst (ks.map shpD), 0), none, none, none, none, none, none, none, none, none, none] := rfl
  have hseq : ∀ x y ρ, evS (sysP.tb n) [] (.seq x y) ρ = (evS (sysP.tb n) [] x ρ).seq (evS (sysP.tb n) [] y) := fun _ _ _ => rfl
  have hbody : d37.body = .seq (.asg (.nm 2) (.int 0)) (.seq (.for_ (.tp (.cons (.nm 3) (.cons (.nm 4) .nil))) (.var 1) p37_2) B36) := rfl
  obtain ⟨r, h⟩ := l37o n hn t (some (.lst (ks.map shpD), 0)) hl hp ks 0 none none none none none none none none none hk
  have h1 : evS (sysP.tb n) [] (.asg (.nm 2) (.int 0)) [some (tx t, 0), some (.lst (ks.map shpD), 0), none, none, none, none, none, none, none, none, none, none] = .nx [some (tx t, 0), some (.lst (ks.map shpD), 0), some (.int ((0 : Nat) : Int), 0), none, none, none, none, none, none, none, none, none] := rfl
  have hit : (ev (sysP.tb n) [] (.var 1)).it [some (tx t, 0), some (.lst (ks.map shpD), 0), some (.int ((0 : Nat) : Int), 0), none, none, none, none, none, none, none, none, none] = .ok (ks.map shpD) [some (tx t, 0), some (.lst (ks.map shpD), 0), some (.int ((0 : Nat) : Int), 0), none, none, none, none, none, none, none, none, none] := rfl
  rw [runDef_eq rfl, hps, e, hbody, hseq, h1, seq_nx, hseq, S_for, hit, then_ok, h]
  rfl
/-- _law_shape_takes -/
theorem r1 (T : Tb) : runDef T d1 [] = .ok (.lst ([0, 1, 2, 3, 4, 5, 6].map shpD)) 1 [] := by
  have hps : d1.ps = [] := rfl
  have e : startR d1 [] = [none, none] := rfl
  rw [runDef_eq rfl, hps, e]
  rfl
/-! what is fitted can be told -/
def Fin1 (k m : Nat) (d : D) : Prop := okAt k d = true ∧ (py d).showable = true ∧ szD d ≤ m
theorem fin_tup {k m c : Nat} {ds : List D} (h : ∀ d ∈ ds, Fin1 k m d) (hl : ds.length ≤ c) : Fin1 (k + 1) (c * (m + 2) + 3) (.tup ds) := by
  refine ⟨?_, ?_, ?_⟩
  · simp only [okAt]
    exact okAll_of fun d hd => (h d hd).1
  · simp only [py, PyData.showable]
    exact show_of fun d hd => (h d hd).2.1
  · simp only [szD]
    have := szL_of (k := m) fun d hd => (h d hd).2.2
    have h2 := Nat.mul_le_mul_right (m + 2) hl
    omega
theorem fin_leaf {d : D} (h : Leaf d) {k m : Nat} (hm : 1921 ≤ m) : Fin1 k m d := ⟨okAt_mono 0 k d (by omega) h.1, h.2.1, by have := h.2.2; omega⟩
theorem go_fin (t : List Nat) (a : Nat) (g : Bool) (x : Act) (hx : x.good) : Fin1 1 200000 (x.go t a g).1 := by
  cases x with
  | word w => exact fin_leaf leaf_non (by omega)
  | name => exact fin_leaf (nameGo_fine t a g) (by omega)
  | one v vs =>
    obtain ⟨h1, h2⟩ := hx.2.2.2 _ (one_mem t a v vs).1
    exact fin_leaf (leaf_tx h2 (by omega)) (by omega)
  | count lo hi => exact fin_leaf (leaf_dig (cnt_small t a g lo hi)) (by omega)
  | row m lo hi =>
    have h := row_small t lo hi m [] a g (fun _ h => nomatch h)
    have h2 : m ≤ 100 := hx.1
    have h3 : Fin1 (0 + 1) (100 * (1921 + 2) + 3) (.tup ((rowGo t lo hi m [] a g).1.map D.int)) := fin_tup (fun d hd => by
      obtain ⟨i, hi', rfl⟩ := List.mem_map.mp hd
      exact leaf_dig (h.1 i hi')) (by
      rw [List.length_map]
      have := h.2
      simp only [List.length_nil] at this
      omega)
    exact ⟨h3.1, h3.2.1, by have := h3.2.2; show szD (.tup ((rowGo t lo hi m [] a g).1.map D.int)) ≤ _; omega⟩
  | fin => exact fin_leaf leaf_non (by omega)
theorem seq_fin (t : List Nat) : ∀ (xs : List Act) (a : Nat) (g : Bool), (∀ x ∈ xs, x.good) → (∀ d ∈ (seqGo t xs a g).1, Fin1 1 200000 d) ∧ (seqGo t xs a g).1.length ≤ xs.length ∧ (seqGo t xs a g).2.1 ≤ a + 1000 * xs.length
  | [], a, g, _ => ⟨(fun _ h => nomatch h), Nat.le_refl _, Nat.le_refl _⟩
  | x :: xs, a, g, hx => by
    obtain ⟨h1, h2, h3⟩ := seq_fin t xs (x.go t a g).2.1 (x.go t a g).2.2 fun y hy => hx y (List.mem_cons_of_mem _ hy)
    have h4 := go_fin t a g x (hx x List.mem_cons_self)
    have h5 := go_le t a g x (hx x List.mem_cons_self)
    simp only [seqGo, List.length_cons]
    refine ⟨?_, ?_, by omega⟩
    · cases x.shown with
      | true =>
        intro d hd
        rcases List.mem_cons.mp hd with e | hd
        · rw [e]; exact h4
        · exact h1 d hd
      | false => exact h1
    · cases x.shown
      · simp only [Bool.false_eq_true, if_false]; omega
      · simp only [if_true, List.length_cons]; omega
theorem fit_fin (t : List Nat) : ∀ (ks : List Nat) (b : Nat), (∀ k ∈ ks, k < 7) → b ≤ 10000 → okD (fitGo t ks b) = true ∧ (py (fitGo t ks b)).showable = true ∧ szD (fitGo t ks b) ≤ LIM
  | [], b, _, hb => by
    have h : Fin1 (0 + 1) (2 * (1921 + 2) + 3) (.tup [.non, .int (b : Int)]) := fin_tup (fun d hd => by
      simp only [List.mem_cons, List.not_mem_nil, or_false] at hd
      rcases hd with rfl | rfl
      · exact leaf_non
      · exact leaf_int (small_lt (by omega))) (by simp)
    exact ⟨okAt_mono 1 60 _ (by omega) h.1, h.2.1, Nat.le_trans h.2.2 (by rw [LIMv]; omega)⟩
  | k :: ks, b, hk, hb => by
    obtain ⟨g1, g2, g3⟩ := shp_good k (hk k List.mem_cons_self)
    obtain ⟨h1, h2, h3⟩ := seq_fin t (shp k).2 0 true g1
    unfold fitGo
    split
    · have h4 : Fin1 (1 + 1) (5 * (200000 + 2) + 3) (.tup (tx (shp k).1 :: (seqGo t (shp k).2 0 true).1)) := fin_tup (fun d hd => by
        rcases List.mem_cons.mp hd with e | hd
        · rw [e]; exact fin_leaf g3 (by omega)
        · exact h1 d hd) (by simp only [List.length_cons]; omega)
      have h5 : Fin1 (2 + 1) (2 * ((5 * (200000 + 2) + 3) + 2) + 3) (.tup [.tup (tx (shp k).1 :: (seqGo t (shp k).2 0 true).1), .int 0]) := fin_tup (fun d hd => by
        simp only [List.mem_cons, List.not_mem_nil, or_false] at hd
        rcases hd with rfl | rfl
        · exact h4
        · exact fin_leaf (leaf_dig ⟨by omega, by omega⟩) (by omega)) (by simp)
      exact ⟨okAt_mono 3 60 _ (by omega) h5.1, h5.2.1, Nat.le_trans h5.2.2 (by rw [LIMv]; omega)⟩
    · exact fit_fin t ks _ (fun j hj => hk j (List.mem_cons_of_mem _ hj)) (by omega)
theorem run36 {n : Nat} (h : 36 < n) : (sysP.tb n).run 36 = runDef (sysP.tb 36) d36 := runP h rfl
theorem io36 (n : Nat) : (sysP.tb n).io 36 = [false, false] := ioP (d := d36) rfl
theorem run37 {n : Nat} (h : 37 < n) : (sysP.tb n).run 37 = runDef (sysP.tb 37) d37 := runP h rfl
theorem io37 (n : Nat) : (sysP.tb n).io 37 = [false, false] := ioP (d := d37) rfl
theorem run34 {n : Nat} (h : 34 < n) : (sysP.tb n).run 34 = runDef (sysP.tb 34) d34 := runP h rfl
theorem io34 (n : Nat) : (sysP.tb n).io 34 = [true] := ioP (d := d34) rfl
theorem run1 {n : Nat} (h : 1 < n) : (sysP.tb n).run 1 = runDef (sysP.tb 1) d1 := runP h rfl
theorem io1 (n : Nat) : (sysP.tb n).io 1 = [] := ioP (d := d1) rfl
theorem run18 {n : Nat} (h : 18 < n) : (sysP.tb n).run 18 = runDef (sysP.tb 18) d18 := runP h rfl
theorem io18 (n : Nat) : (sysP.tb n).io 18 = [] := ioP (d := d18) rfl
theorem run0 {n : Nat} (h : 0 < n) : (sysP.tb n).run 0 = runDef (sysP.tb 0) d0 := runP h rfl
theorem io0 (n : Nat) : (sysP.tb n).io 0 = [false] := ioP (d := d0) rfl
/-! law -/
abbrev s38 (S : Slt) (b : B) (x2 x3 x4 x5 x6 x7 x8 : Slt) : Rho := [S, some (bagD b, 1), x2, x3, x4, x5, x6, x7, x8]
theorem t38a (n : Nat) (hn : 37 < n) (S : Slt) (b : B) (x2 x3 x4 x5 x6 x7 x8 : Slt) (hb : Bok b) : ∃ b', evS (sysP.tb n) [] p38_6 (s38 S b x2 x3 x4 x5 x6 x7 x8) = .nx (s38 S b' x2 x3 x4 x5 x6 x7 x8) ∧ Bok b' := by
  obtain ⟨b', h1, h2⟩ := r34 34 (by omega) b hb
  have hc : callR (sysP.tb n) 34 [.s 1] (s38 S b x2 x3 x4 x5 x6 x7 x8) = .ok (.bl true, 0) (s38 S b' x2 x3 x4 x5 x6 x7 x8) := call_ok (io34 n) rfl rfl ((congrFun (run34 (n := n) (by omega)) _).trans h1) rfl
  refine ⟨b', ?_, h2⟩
  simp only [s38] at hc ⊢
  simp [varO, varF, frzV, tstO, lift_some, bltO, rdOs, rdO, val1, val2, bool0, optI, seqItems, truD, ifsT, bind_ok', then_ok, seq_nx, seq_rt, seq_bk, seq_ct, setO, getO, ipD, mutOk, mutR, LIMv, f_call, p38_6, io34, hc]
theorem l38a (n : Nat) (hn : 37 < n) (S : Slt) : ∀ (m k : Nat) (b : B) (x2 x3 x4 x5 x6 x7 x8 : Slt), Bok b → ∃ b' y2, forLoop (bindT [] (.nm 2)) (evS (sysP.tb n) [] p38_6) (natL k m) (s38 S b x2 x3 x4 x5 x6 x7 x8) = .nx (s38 S b' y2 x3 x4 x5 x6 x7 x8) ∧ Bok b'
  | 0, k, b, x2, x3, x4, x5, x6, x7, x8, hb => ⟨b, x2, rfl, hb⟩
  | m + 1, k, b, x2, x3, x4, x5, x6, x7, x8, hb => by
    have hbd : bindT [] (.nm 2) (.int (k : Int)) (s38 S b x2 x3 x4 x5 x6 x7 x8) = some (s38 S b (some (.int k, 0)) x3 x4 x5 x6 x7 x8) := by simp [s38]
    obtain ⟨b1, h1, hb1⟩ := t38a n hn S b (some (.int k, 0)) x3 x4 x5 x6 x7 x8 hb
    obtain ⟨b2, y2, h2, hb2⟩ := l38a n hn S m (k + 1) b1 (some (.int k, 0)) x3 x4 x5 x6 x7 x8 hb1
    refine ⟨b2, y2, ?_, hb2⟩
    simp only [natL_succ, forLoop, hbd, h1]
    exact h2
end EvL
end
section
set_option Elab.async false
set_option linter.all false
set_option maxRecDepth 100000
set_option maxHeartbeats 4000000
namespace EvL
open PySem PySem.Spec L2 Ev
theorem take_g {n : Nat} (hn : 19 < n) {ps : List Nat} {e : CE} {b : B} {b0 : B} {i : Nat} {ρ0 ρ : Rho} {m : Int} {l : Nat} (h0 : ρ0[i]? = some (some (bagD b0, 1))) (h : (ev (sysP.tb n) ps e).f ρ0 = .ok (.int m, l) ρ) (hρ : ρ[i]? = some (some (bagD b, 1))) (hb : Bok b) (hm : 1 ≤ m) (hm2 : m < 1073741824) :
    ∃ v b', (ev (sysP.tb n) ps (.call 19 (.cons (.var i) (.cons e .nil)))).f ρ0 = .ok (.int v, 0) (ρ.set i (some (bagD b', 1))) ∧ Bok b' ∧ 0 ≤ v ∧ v < m := by
  obtain ⟨v, b', hc, h1, h2, h3⟩ := call19 hn (ρ := ρ) (i := i) (b := b) (m := m) hρ hb hm hm2
  refine ⟨v, b', ?_, h1, h2, h3⟩
  simp [varO, varF, frzV, tstO, lift_some, bltO, rdOs, rdO, val1, val2, bool0, optI, seqItems, truD, ifsT, bind_ok', then_ok, seq_nx, seq_rt, seq_bk, seq_ct, setO, getO, ipD, mutOk, mutR, LIMv, f_call, io19, h0, h, hc]
theorem some_g {n : Nat} (hn : 20 < n) {ps : List Nat} {e : CE} {b : B} {b0 : B} {i : Nat} {ρ0 ρ : Rho} {ds : List D} {l : Nat} (h0 : ρ0[i]? = some (some (bagD b0, 1))) (h : (ev (sysP.tb n) ps e).f ρ0 = .ok (.lst ds, l) ρ) (hρ : ρ[i]? = some (some (bagD b, 1))) (hb : Bok b) (hd : ds ≠ []) (h1 : ds.length < 1073741824) :
    ∃ d b', (ev (sysP.tb n) ps (.call 20 (.cons (.var i) (.cons e .nil)))).f ρ0 = .ok (d, 0) (ρ.set i (some (bagD b', 1))) ∧ Bok b' ∧ d ∈ ds := by
  obtain ⟨d, b', hc, h2, h3⟩ := call20 hn (ρ := ρ) (i := i) (b := b) (ds := ds) hρ hb hd h1
  refine ⟨d, b', ?_, h2, h3⟩
  simp [varO, varF, frzV, tstO, lift_some, bltO, rdOs, rdO, val1, val2, bool0, optI, seqItems, truD, ifsT, bind_ok', then_ok, seq_nx, seq_rt, seq_bk, seq_ct, setO, getO, ipD, mutOk, mutR, LIMv, f_call, io20, h0, h, hc]
theorem spoil_g {n : Nat} (hn : 21 < n) {ps : List Nat} {e : CE} {b b0 : B} {i : Nat} {ρ0 ρ : Rho} {l : List Nat} {k : Nat} (h0 : ρ0[i]? = some (some (bagD b0, 1))) (h : (ev (sysP.tb n) ps e).f ρ0 = .ok (tx l, k) ρ) (hρ : ρ[i]? = some (some (bagD b, 1))) (hb : Bok b) (hl : l.length ≤ 1000000) (hp : Pl l) :
    ∃ l' b', (ev (sysP.tb n) ps (.call 21 (.cons (.var i) (.cons e .nil)))).f ρ0 = .ok (tx l', 0) (ρ.set i (some (bagD b', 1))) ∧ Bok b' ∧ l'.length ≤ l.length + 1 ∧ Pl l' := by
  obtain ⟨l', b', h1, h2, h3, h4⟩ := r21 21 (by omega) b l hb hl
  refine ⟨l', b', ?_, h1, h2, fun c hc => ?_⟩
  · have hc : callR (sysP.tb n) 21 [.s i, .v (tx l)] ρ = .ok (tx l', 0) (ρ.set i (some (bagD b', 1))) := call_ok (io21 n) rfl (by simp [rdOs, rdO, hρ]) ((congrFun (run21 hn) _).trans h4) rfl
    simp [varO, varF, frzV, tstO, lift_some, bltO, rdOs, rdO, val1, val2, bool0, optI, seqItems, truD, ifsT, bind_ok', then_ok, seq_nx, seq_rt, seq_bk, seq_ct, setO, getO, ipD, mutOk, mutR, LIMv, f_call, io21, h0, h, hc]
  · rcases h3 c hc with h | h
    · exact hp c h
    · exact signs_pl c h
theorem mixed_g {n : Nat} (hn : 35 < n) {ps : List Nat} {e : CE} {b b0 : B} {i : Nat} {ρ0 ρ : Rho} {ds : List D} {k : Nat} (h0 : ρ0[i]? = some (some (bagD b0, 1))) (h : (ev (sysP.tb n) ps e).f ρ0 = .ok (.lst ds, k) ρ) (hρ : ρ[i]? = some (some (bagD b, 1))) (hb : Bok b) (hl : ds.length < 1000000) :
    ∃ es b', (ev (sysP.tb n) ps (.call 35 (.cons (.var i) (.cons e .nil)))).f ρ0 = .ok (.lst es, 1) (ρ.set i (some (bagD b', 1))) ∧ Bok b' ∧ es.length = ds.length ∧ ∀ y ∈ es, y ∈ ds := by
  obtain ⟨es, b', h1, h2, h3, h4⟩ := r35 35 (by omega) b ds hb hl
  refine ⟨es, b', ?_, h1, h2, h3⟩
  have hc : callR (sysP.tb n) 35 [.s i, .v (.lst ds)] ρ = .ok (.lst es, 1) (ρ.set i (some (bagD b', 1))) := call_ok (io35 n) rfl (by simp [rdOs, rdO, hρ]) ((congrFun (run35 hn) _).trans h4) rfl
  simp [varO, varF, frzV, tstO, lift_some, bltO, rdOs, rdO, val1, val2, bool0, optI, seqItems, truD, ifsT, bind_ok', then_ok, seq_nx, seq_rt, seq_bk, seq_ct, setO, getO, ipD, mutOk, mutR, LIMv, f_call, io35, h0, h, hc]
def rows8 : List (List Nat) := ["fold a1", "states 3", "event go 1 0 2", "tells 0 9", "past p of a1", "asks moments", "end", "event of 1"].map ofS
theorem rows8_ok : ∀ w ∈ rows8, w.length ≤ 20 ∧ Pl w := by unfold Pl; decide +kernel
abbrev kInt (k : Nat) : D := .int (k : Int)
theorem all_int : ∀ {xs : List D}, (∀ x ∈ xs, ∃ k : Nat, x = kInt k ∧ k < 7) → ∃ ks : List Nat, xs = ks.map kInt ∧ ∀ k ∈ ks, k < 7
  | [], _ => ⟨[], rfl, fun _ h => nomatch h⟩
  | x :: xs, h => by
    obtain ⟨k, h1, h2⟩ := h x List.mem_cons_self
    obtain ⟨ks, h3, h4⟩ := all_int fun y hy => h y (List.mem_cons_of_mem _ hy)
    refine ⟨k :: ks, by rw [h1, h3]; rfl, fun y hy => ?_⟩
    rcases List.mem_cons.mp hy with e | hy
    · rw [e]; exact h2
    · exact h4 y hy
def SH : D := .tup [.fn 6, .fn 9, .fn 11, .fn 12, .fn 13, .fn 16, .fn 17]
def TK : D := .lst ([0, 1, 2, 3, 4, 5, 6].map shpD)
theorem SH_ix : ∀ k, k < 7 → ixD SH (kInt k) = some (.fn (fnOf k), 0) := by
  intro k hk
  have : k = 0 ∨ k = 1 ∨ k = 2 ∨ k = 3 ∨ k = 4 ∨ k = 5 ∨ k = 6 := by omega
  rcases this with rfl | rfl | rfl | rfl | rfl | rfl | rfl <;> rfl
theorem TK_ix : ∀ k, k < 7 → ixD TK (kInt k) = some (shpD k, 0) := by
  intro k hk
  have : k = 0 ∨ k = 1 ∨ k = 2 ∨ k = 3 ∨ k = 4 ∨ k = 5 ∨ k = 6 := by omega
  rcases this with rfl | rfl | rfl | rfl | rfl | rfl | rfl <;> rfl
def kOf : D → Nat
  | .int i => i.toNat
  | _ => 0
theorem kOf_map (f : Nat → D) (ks : List Nat) : (ks.map kInt).map (fun d => f (kOf d)) = ks.map f := by
  rw [List.map_map]
  apply List.map_congr_left
  intro k _
  show f (Int.toNat (k : Int)) = f k
  rw [Int.toNat_natCast]
abbrev s38b (S : Slt) (b : B) (x2 R : Slt) (t : List Nat) (ks : List Nat) (l : Nat) : Rho := [S, some (bagD b, 1), x2, some (TK, 0), some (SH, 0), R, some (tx t, 0), some (.lst (ks.map kInt), l), none]
theorem lc38 (T : Tb) (p e : CE) (i : Nat) (X : D) (f : Nat → D) (hp : p = .lc [8] (.nm 8) (.var 7) .nil e) (he : e = .ix (.var i) (.var 8)) (S : Slt) (b : B) (x2 R : Slt) (t : List Nat) (ks : List Nat) (l : Nat) (hk : ∀ k ∈ ks, k < 7) (hl : ks.length ≤ 100)
    (hX : ∀ y, (s38b S b x2 R t ks 0).set 8 y = (s38b S b x2 R t ks 0).set 8 y ∧ ((s38b S b x2 R t ks 0).set 8 y)[i]? = some (some (X, 0))) (hf : ∀ k, k < 7 → ixD X (kInt k) = some (f k, 0)) :
    (ev T [] p).f (s38b S b x2 R t ks l) = .ok (.lst (ks.map f), 1) (s38b S b x2 R t ks 0) := by
  obtain ⟨ρ', h1, h2⟩ := compLoop_map (i := 8) (ρ0 := s38b S b x2 R t ks 0) (bd := bindT [] (.nm 8)) (t := ifsT .nil (ev T [] .nil).t) (f := (ev T [] e).f) (g := fun d => f (kOf d)) (P := fun d => ∃ k : Nat, d = kInt k ∧ k < 7) (by
    rintro d ⟨k, rfl, hk⟩
    refine ⟨(s38b S b x2 R t ks 0).set 8 (some (kInt k, 0)), 0, ?_, rfl, ?_, ?_⟩
    · simp [s38b]
    · have h3 := (hX (some (kInt k, 0))).2
      have h4 : ((s38b S b x2 R t ks 0).set 8 (some (kInt k, 0)))[8]? = some (some (kInt k, 0)) := rfl
      have h5 := hf k hk
      have h6 : kOf (kInt k) = k := Int.toNat_natCast k
      rw [h6]
      generalize (s38b S b x2 R t ks 0).set 8 (some (kInt k, 0)) = ρ at *
      subst he
      simp [varO, varF, frzV, tstO, lift_some, bltO, rdOs, rdO, val1, val2, bool0, optI, seqItems, truD, ifsT, bind_ok', then_ok, seq_nx, seq_rt, seq_bk, seq_ct, setO, getO, ipD, mutOk, mutR, LIMv, h3, h4, h5]
    · simp [s38b]) (ks.map kInt) (s38b S b x2 R t ks 0) [] (by
    intro d hd
    obtain ⟨k, hm, rfl⟩ := List.mem_map.mp hd
    exact ⟨k, rfl, hk k hm⟩) (by simp only [List.length_nil, List.length_map, LIMv]; omega) rfl
  have hit : (ev T [] (.var 7)).it (s38b S b x2 R t ks l) = .ok (ks.map kInt) (s38b S b x2 R t ks 0) := rfl
  have hlc := lc_f (T := T) (ps := []) (own := [8]) (t := .nm 8) (ifs := .nil) (e := e) hit h1
  have hb : backR (s38b S b x2 R t ks 0) ρ' [8] = s38b S b x2 R t ks 0 := by
    show ρ'.set 8 none = _
    rw [h2]; rfl
  rw [hb, List.nil_append, kOf_map] at hlc
  rw [hp]
  exact hlc
end EvL
end
section
set_option Elab.async false
set_option linter.all false
set_option maxRecDepth 100000
set_option maxHeartbeats 4000000
namespace EvL
open PySem PySem.Spec L2 Ev
abbrev s38c (S : Slt) (b : B) (x2 R x6 x7 : Slt) : Rho := [S, some (bagD b, 1), x2, some (TK, 0), some (SH, 0), R, x6, x7, none]
def E1 : CE := .call 21 (.cons (.var 1) (.cons (.call 21 (.cons (.var 1) (.cons (.call 20 (.cons (.var 1) (.cons (.var 5) .nil))) .nil))) .nil))
def E2 : CE := .slc (.call 35 (.cons (.var 1) (.cons (.lrg (.int 7)) .nil))) .nil (.bin .Add (.int 1) (.call 19 (.cons (.var 1) (.cons (.int 7) .nil))))
def C38 : CS := .seq (.ite (.not (.call 33 (.cons (.call 36 (.cons (.var 6) (.cons p38_1 .nil))) (.cons (.call 37 (.cons (.var 6) (.cons p38_3 .nil))) .nil)))) (.seq (.ret (.bl false)) .nil) .nil) .nil
theorem p38_eq : p38_4 = .seq (.asg (.nm 6) E1) (.seq (.asg (.nm 7) E2) C38) := rfl
theorem t38b (n : Nat) (hn : 37 < n) (S : Slt) (b : B) (x2 : Slt) (l5 : Nat) (hl5 : l5 = 0 ∨ l5 = 1) (x6 x7 : Slt) (hb : Bok b) : ∃ b' y6 y7, evS (sysP.tb n) [] p38_4 (s38c S b x2 (some (.lst (rows8.map tx), l5)) x6 x7) = .nx (s38c S b' x2 (some (.lst (rows8.map tx), 0)) y6 y7) ∧ Bok b' := by
  have hseq : ∀ x y ρ, evS (sysP.tb n) [] (.seq x y) ρ = (evS (sysP.tb n) [] x ρ).seq (evS (sysP.tb n) [] y) := fun _ _ _ => rfl
  obtain ⟨d, b1, g1, hb1, hd⟩ := some_g (n := n) (by omega) (ps := []) (e := .var 5) (i := 1) (b0 := b) (b := b) (ρ0 := s38c S b x2 (some (.lst (rows8.map tx), l5)) x6 x7) (ρ := s38c S b x2 (some (.lst (rows8.map tx), 0)) x6 x7) (ds := rows8.map tx) (l := 0) rfl (by rcases hl5 with rfl | rfl <;> rfl) rfl hb (by decide +kernel) (by decide +kernel)
  obtain ⟨w, hw, rfl⟩ := List.mem_map.mp hd
  obtain ⟨w1, w2⟩ := rows8_ok w hw
  obtain ⟨t1, b2, g2, hb2, k2, p2⟩ := spoil_g (n := n) (by omega) (ps := []) (i := 1) (k := 0) (b0 := b) (b := b1) (ρ := s38c S b1 x2 (some (.lst (rows8.map tx), 0)) x6 x7) rfl g1 rfl hb1 (by omega) w2
  obtain ⟨t, b3, g3, hb3, k3, p3⟩ := spoil_g (n := n) (by omega) (ps := []) (i := 1) (k := 0) (b0 := b) (b := b2) (ρ := s38c S b2 x2 (some (.lst (rows8.map tx), 0)) x6 x7) rfl g2 rfl hb2 (by omega) p2
  have h1 : evS (sysP.tb n) [] (.asg (.nm 6) E1) (s38c S b x2 (some (.lst (rows8.map tx), l5)) x6 x7) = .nx (s38c S b3 x2 (some (.lst (rows8.map tx), 0)) (some (tx t, 0)) x7) := by
    rw [S_asg, E1, g3, then_ok]; rfl
  obtain ⟨es, b4, g4, hb4, k4, m4⟩ := mixed_g (n := n) (by omega) (ps := []) (e := .lrg (.int 7)) (i := 1) (b0 := b3) (b := b3) (ρ0 := s38c S b3 x2 (some (.lst (rows8.map tx), 0)) (some (tx t, 0)) x7) (ρ := s38c S b3 x2 (some (.lst (rows8.map tx), 0)) (some (tx t, 0)) x7) (ds := rangeD 0 7) (k := 1) rfl rfl rfl hb3 (by decide)
  obtain ⟨v, b5, g5, hb5, v0, v1⟩ := take_g (n := n) (by omega) (ps := []) (e := .int 7) (i := 1) (b0 := b4) (b := b4) (ρ0 := s38c S b4 x2 (some (.lst (rows8.map tx), 0)) (some (tx t, 0)) x7) (ρ := s38c S b4 x2 (some (.lst (rows8.map tx), 0)) (some (tx t, 0)) x7) (m := 7) (l := 0) rfl rfl rfl hb4 (by omega) (by omega)
  obtain ⟨ks, hks, hk7⟩ := all_int (xs := es.take (1 + v).toNat) (fun x hx => by
    have h := m4 x (List.mem_of_mem_take hx)
    obtain ⟨k, hk, rfl⟩ := List.mem_map.mp h
    exact ⟨k, by simp [kInt], by simpa using hk⟩)
  have hkl : ks.length ≤ 100 := by
    have h := congrArg List.length hks
    rw [List.length_take, List.length_map, k4] at h
    have h7 : (rangeD 0 7).length = 7 := rfl
    rw [h7] at h
    omega
  have hcut : slcD (.lst es) none (some (1 + v)) = some (.lst (ks.map kInt), 1) := by
    rw [← hks]
    show some (D.lst (cutL es none (some (1 + v))), 1) = _
    rw [cut_take es (1 + v) (by omega)]
  have h2 : evS (sysP.tb n) [] (.asg (.nm 7) E2) (s38c S b3 x2 (some (.lst (rows8.map tx), 0)) (some (tx t, 0)) x7) = .nx (s38b S b5 x2 (some (.lst (rows8.map tx), 0)) t ks 1) := by
    have hadd : ∀ i j : Int, binD .Add (.int i) (.int j) = some (.int (i + j), 0) := fun _ _ => rfl
    have g4' : (ev (sysP.tb n) [] (.call 35 (.cons (.var 1) (.cons (.lrg (.int 7)) .nil)))).f (s38c S b3 x2 (some (.lst (rows8.map tx), 0)) (some (tx t, 0)) x7) = .ok (.lst es, 1) (s38c S b4 x2 (some (.lst (rows8.map tx), 0)) (some (tx t, 0)) x7) := g4
    have g5' : (ev (sysP.tb n) [] (.call 19 (.cons (.var 1) (.cons (.int 7) .nil)))).f (s38c S b4 x2 (some (.lst (rows8.map tx), 0)) (some (tx t, 0)) x7) = .ok (.int v, 0) (s38c S b5 x2 (some (.lst (rows8.map tx), 0)) (some (tx t, 0)) x7) := g5
    rw [S_asg, E2, f_slc, o_call, g4']
    generalize hρ4 : s38c S b4 x2 (some (.lst (rows8.map tx), 0)) (some (tx t, 0)) x7 = ρ4 at *
    generalize hρ5 : s38c S b5 x2 (some (.lst (rows8.map tx), 0)) (some (tx t, 0)) x7 = ρ5 at *
    simp [varO, varF, frzV, tstO, lift_some, bltO, rdOs, rdO, val1, val2, bool0, optI, seqItems, truD, ifsT, bind_ok', then_ok, seq_nx, seq_rt, seq_bk, seq_ct, setO, getO, ipD, mutOk, mutR, LIMv, g5', hadd, hcut]
    subst hρ5
    simp [s38c, s38b]
  have j1 := lc38 (sysP.tb n) p38_1 p38_0 4 SH (fun k => .fn (fnOf k)) rfl rfl S b5 x2 (some (.lst (rows8.map tx), 0)) t ks 1 hk7 hkl (fun y => ⟨rfl, rfl⟩) SH_ix
  have j3 := lc38 (sysP.tb n) p38_3 p38_2 3 TK shpD rfl rfl S b5 x2 (some (.lst (rows8.map tx), 0)) t ks 0 hk7 hkl (fun y => ⟨rfl, rfl⟩) TK_ix
  have c36 : ∀ ρ, callR (sysP.tb n) 36 [.v (tx t), .v (.lst (ks.map fun k => D.fn (fnOf k)))] ρ = .ok (fitGo t ks 0, 0) ρ := fun ρ => call_ok (io36 n) rfl rfl ((congrFun (run36 (n := n) (by omega)) _).trans (r36 36 (by omega) t ks hk7 (by omega))) rfl
  have c37 : ∀ ρ, callR (sysP.tb n) 37 [.v (tx t), .v (.lst (ks.map shpD))] ρ = .ok (fitGo t ks 0, 0) ρ := fun ρ => call_ok (io37 n) rfl rfl ((congrFun (run37 (n := n) hn) _).trans (r37 37 (by omega) t ks hk7 (by omega) p3)) rfl
  obtain ⟨f1, f2, f3⟩ := fit_fin t ks 0 hk7 (by omega)
  have c33 : ∀ ρ, callR (sysP.tb n) 33 [.v (fitGo t ks 0), .v (fitGo t ks 0)] ρ = .ok (.bl true, 0) ρ := fun ρ => call33 (n := n) (by omega) f1 f2 f3
  have h3 : evS (sysP.tb n) [] C38 (s38b S b5 x2 (some (.lst (rows8.map tx), 0)) t ks 1) = .nx (s38b S b5 x2 (some (.lst (rows8.map tx), 0)) t ks 0) := by
    generalize fitGo t ks 0 = F at *
    generalize hA : D.lst (ks.map fun k => D.fn (fnOf k)) = A at *
    generalize hB : D.lst (ks.map shpD) = A2 at *
    have v61 : varF 6 (s38b S b5 x2 (some (.lst (rows8.map tx), 0)) t ks 1) = .ok (tx t, 0) (s38b S b5 x2 (some (.lst (rows8.map tx), 0)) t ks 1) := rfl
    have v60 : varF 6 (s38b S b5 x2 (some (.lst (rows8.map tx), 0)) t ks 0) = .ok (tx t, 0) (s38b S b5 x2 (some (.lst (rows8.map tx), 0)) t ks 0) := rfl
    generalize s38b S b5 x2 (some (.lst (rows8.map tx), 0)) t ks 1 = ρ1 at *
    generalize s38b S b5 x2 (some (.lst (rows8.map tx), 0)) t ks 0 = ρ0 at *
    simp [C38, io33, io36, io37, f_call, frzV, v61, v60, j1, j3, bind_ok', c36, c37, c33, tstO, rdO, truD, lift_some, then_ok, seq_nx]
  refine ⟨b5, some (tx t, 0), some (.lst (ks.map kInt), 0), ?_, hb5⟩
  rw [p38_eq, hseq, h1, seq_nx, hseq, h2, seq_nx, h3]
theorem l38b (n : Nat) (hn : 37 < n) (S : Slt) : ∀ (m k : Nat) (b : B) (x2 : Slt) (l5 : Nat) (x6 x7 : Slt), Bok b → (l5 = 0 ∨ l5 = 1) → ∃ r, forLoop (bindT [] (.nm 2)) (evS (sysP.tb n) [] p38_4) (natL k m) (s38c S b x2 (some (.lst (rows8.map tx), l5)) x6 x7) = .nx (S :: r)
  | 0, k, b, x2, l5, x6, x7, hb, _ => ⟨_, rfl⟩
  | m + 1, k, b, x2, l5, x6, x7, hb, hl5 => by
    have hbd : bindT [] (.nm 2) (.int (k : Int)) (s38c S b x2 (some (.lst (rows8.map tx), l5)) x6 x7) = some (s38c S b (some (.int k, 0)) (some (.lst (rows8.map tx), l5)) x6 x7) := by simp [s38c]
    obtain ⟨b1, y6, y7, h1, hb1⟩ := t38b n hn S b (some (.int k, 0)) l5 hl5 x6 x7 hb
    obtain ⟨r, h2⟩ := l38b n hn S m (k + 1) b1 (some (.int k, 0)) 0 y6 y7 hb1 (.inl rfl)
    refine ⟨r, ?_⟩
    simp only [natL_succ, forLoop, hbd, h1]
    exact h2
/-- law -/
theorem r38 (n : Nat) (hn : 37 < n) (ns : List Int) : ∃ outs, runDef (sysP.tb n) d38 [.scr ns] = .ok (.bl true) 0 outs := by
  have hps : d38.ps = [] := rfl
  have e : startR d38 [.scr ns] = [some (D.scr ns, 0), none, none, none, none, none, none, none, none] := rfl
  have hseq : ∀ x y ρ, evS (sysP.tb n) [] (.seq x y) ρ = (evS (sysP.tb n) [] x ρ).seq (evS (sysP.tb n) [] y) := fun _ _ _ => rfl
  have hb0 : Bok (bag0 ns) := by
    refine ⟨Int.le_refl _, by show (0 : Int) ≤ 1234567891; omega, by show (1234567891 : Int) < 2147483647; omega, ?_⟩
    show ((ns.take 63).map cell).length ≤ 63
    rw [List.length_map]; exact List.length_take_le _ _
  obtain ⟨G3, G4, G5, hbody, e3, e4, e5⟩ : ∃ G3 G4 G5, d38.body = .seq (.asg (.nm 1) (.call 0 (.cons (.var 0) .nil))) (.seq (.for_ (.nm 2) (.rg1 (.int 25)) p38_6) (.seq G3 (.seq G4 (.seq G5 (.seq (.for_ (.nm 2) (.rg1 (.int 25)) p38_4) (.seq (.ret (.bl true)) .nil)))))) ∧
      G3 = .asg (.tp (.cons (.nm 3) (.cons (.nm 4) .nil))) (.tup (.cons (.call 1 .nil) (.cons (.call 18 .nil) .nil))) ∧ G4 = .ite (.cmp .NotEq (.blt .len (.cons (.var 4) .nil)) (.int 7)) (.seq (.ret (.bl false)) .nil) .nil ∧
      G5 = .asg (.nm 5) (.lst (.cons (.str (Str.ofString "fold a1")) (.cons (.str (Str.ofString "states 3")) (.cons (.str (Str.ofString "event go 1 0 2")) (.cons (.str (Str.ofString "tells 0 9")) (.cons (.str (Str.ofString "past p of a1")) (.cons (.str (Str.ofString "asks moments")) (.cons (.str (Str.ofString "end")) (.cons (.str (Str.ofString "event of 1")) .nil))))))))) := ⟨_, _, _, rfl, rfl, rfl, rfl⟩
  have c0 : ∀ ρ, callR (sysP.tb n) 0 [.v (.scr ns)] ρ = .ok (bagD (bag0 ns), 1) ρ := fun ρ => call_ok (io0 n) rfl rfl ((congrFun (run0 (n := n) (by omega)) _).trans (r0 _ ns)) rfl
  have c1 : ∀ ρ, callR (sysP.tb n) 1 [] ρ = .ok (TK, 1) ρ := fun ρ => call_ok (io1 n) rfl rfl ((congrFun (run1 (n := n) (by omega)) _).trans (r1 _)) rfl
  have c18 : ∀ ρ, callR (sysP.tb n) 18 [] ρ = .ok (SH, 0) ρ := fun ρ => call_ok (io18 n) rfl rfl ((congrFun (run18 (n := n) (by omega)) _).trans (r18 _)) rfl
  have h1 : evS (sysP.tb n) [] (.asg (.nm 1) (.call 0 (.cons (.var 0) .nil))) [some (D.scr ns, 0), none, none, none, none, none, none, none, none] = .nx (s38 (some (D.scr ns, 0)) (bag0 ns) none none none none none none none) := by
    simp [varO, varF, frzV, tstO, lift_some, bltO, rdOs, rdO, val1, val2, bool0, optI, seqItems, truD, ifsT, bind_ok', then_ok, seq_nx, seq_rt, seq_bk, seq_ct, setO, getO, ipD, mutOk, mutR, LIMv, f_call, io0, c0, s38]
  have hit : ∀ ρ, (ev (sysP.tb n) [] (.rg1 (.int 25))).it ρ = .ok (natL 0 25) ρ := fun ρ => rg1_it (l := 0) (m := 25) rfl (by rw [LIMv]; omega)
  obtain ⟨b1, y2, h2, hb1⟩ := l38a n hn (some (D.scr ns, 0)) 25 0 (bag0 ns) none none none none none none none hb0
  have h3 : evS (sysP.tb n) [] G3 (s38 (some (D.scr ns, 0)) b1 y2 none none none none none none) = .nx (s38 (some (D.scr ns, 0)) b1 y2 (some (TK, 0)) (some (SH, 0)) none none none none) := by
    generalize TK = X at *
    generalize SH = Y at *
    simp [varO, varF, frzV, tstO, lift_some, bltO, rdOs, rdO, val1, val2, bool0, optI, seqItems, truD, ifsT, bind_ok', then_ok, seq_nx, seq_rt, seq_bk, seq_ct, setO, getO, ipD, mutOk, mutR, LIMv, f_call, e3, io1, io18, c1, c18, s38]
  have hlen : bltD .len [SH] = some (.int 7, 0) := rfl
  have h4 : evS (sysP.tb n) [] G4 (s38 (some (D.scr ns, 0)) b1 y2 (some (TK, 0)) (some (SH, 0)) none none none none) = .nx (s38 (some (D.scr ns, 0)) b1 y2 (some (TK, 0)) (some (SH, 0)) none none none none) := by
    have hne : cmpD .NotEq (.int 7) (.int 7) = some false := rfl
    generalize TK = X at *
    generalize SH = Y at *
    simp [varO, varF, frzV, tstO, lift_some, bltO, rdOs, rdO, val1, val2, bool0, optI, seqItems, truD, ifsT, bind_ok', then_ok, seq_nx, seq_rt, seq_bk, seq_ct, setO, getO, ipD, mutOk, mutR, LIMv, f_call, e4, hlen, hne, s38]
  have h5 : evS (sysP.tb n) [] G5 (s38 (some (D.scr ns, 0)) b1 y2 (some (TK, 0)) (some (SH, 0)) none none none none) = .nx (s38c (some (D.scr ns, 0)) b1 y2 (some (.lst (rows8.map tx), 1)) none none) := by
    rw [e5]; rfl
  obtain ⟨r, h6⟩ := l38b n hn (some (D.scr ns, 0)) 25 0 b1 y2 1 none none hb1 (.inr rfl)
  rw [runDef_eq rfl, hps, e, hbody, hseq, h1, seq_nx, hseq, S_for, hit, then_ok, h2, seq_nx, hseq, h3, seq_nx, hseq, h4, seq_nx, hseq, h5, seq_nx, hseq, S_for, hit, then_ok, h6, seq_nx]
  exact ⟨_, rfl⟩
end EvL
end
section
set_option Elab.async false
set_option linter.all false
set_option maxRecDepth 100000
set_option maxHeartbeats 0
namespace Ev
open PySem PySem.Spec L2
theorem Sys.tb_congr {S S' : Sys} (hc : S.con = S'.con) (h : S.defs.map (fun t : Dt => t.d) = S'.defs.map (fun t : Dt => t.d)) : ∀ n, S.tb n = S'.tb n := by
  have hg : ∀ j : Nat, (S.defs[j]?).map (fun t : Dt => t.d) = (S'.defs[j]?).map (fun t : Dt => t.d) := fun j => by
    rw [← List.getElem?_map, ← List.getElem?_map, h]
  have hio : S.io = S'.io := by
    funext j
    have := hg j
    unfold Sys.io
    cases h1 : S.defs[j]? <;> cases h2 : S'.defs[j]? <;> rw [h1, h2] at this
    · cases this
    · cases this
    · simp only [Option.map_some, Option.some.injEq] at this
      simp only [this]
  intro n
  induction n with
  | zero => simp only [Sys.tb, hc, hio]
  | succ n ih =>
    have := hg n
    simp only [Sys.tb, ih, hc, hio]
    congr 1
    funext j
    by_cases hj : j = n
    · rw [if_pos hj, if_pos hj]
      cases h1 : S.defs[n]? <;> cases h2 : S'.defs[n]? <;> rw [h1, h2] at this
      · cases this
      · cases this
      · simp only [Option.map_some, Option.some.injEq] at this
        simp only [this]
    · rw [if_neg hj, if_neg hj]
end Ev
namespace EvL
open PySem PySem.Spec PyProof.Rows L2 Ev
theorem sys_eq : ∀ n, hd.sys.tb n = sysP.tb n := Sys.tb_congr rfl rfl
theorem tells : ∀ ns : List Int, ∃ outs, runDef (hd.sys.tb 38) d38 [.scr ns] = .ok (.bl true) 0 outs := by
  intro ns
  rw [sys_eq]
  exact r38 38 (by omega) ns
end EvL
open PySem PySem.W PySem.Calls PyProof.Rows
theorem PySem.Challenge.cw_pastfolds_k02_lines_gone_over_sign_by_si_holds : PySem.Challenge.rw_pastfolds_k02_lines_gone_over_sign_by_si.Holds := by
  w_on; o_law
  refine HandSHeadRun.head_any (r := OpenLaw.row PySem.Challenge.rw_pastfolds_k02_lines_gone_over_sign_by_si) (q := view (OpenLaw.row PySem.Challenge.rw_pastfolds_k02_lines_gone_over_sign_by_si).prog [39]) (H := Ev.hkE EvL.hd) (ob := Ev.obT EvL.hd) (M := 20000) (loose := EvL.loose)
    (d := HandSHeadRun.topDef (OpenLaw.row PySem.Challenge.rw_pastfolds_k02_lines_gone_over_sign_by_si).prog 39) (kwd := []) (Ev.obT_eq EvL.hd)
    (by kernel_rfl) (fun s => by kernel_rfl) EvL.run (by kernel_rfl) (by kernel_rfl) (by kernel_rfl) (by rfl) (by first | assumption | decide +kernel) (by decide +kernel) ⟨rfl, rfl, rfl, rfl, rfl, by decide +kernel⟩ ?hw ?hc
  case hw => w_witness2
  case hc =>
    refine Ev.walkg (l := PySem.Challenge.rw_pastfolds_k02_lines_gone_over_sign_by_si) (n := 63) (k := 78) (x := "script") (CX := fun w => L2.CX (PySem.Challenge.rw_pastfolds_k02_lines_gone_over_sign_by_si).prog w) rfl (by decide) (by kernel_rfl) ⟨rfl, by decide, by decide⟩ ?F (fun w _ _ _ _ z => by obtain ⟨_, _, _, _, _, _, _, _, _, _, _, _, z⟩ := z; exact z)
    intro w mg fa h Y G hmg0
    obtain ⟨K, KX, c, ex⟩ := Y
    have hmg : mg ("law" : PySem.Str) = some (.ref fa) := by
      have e : (HandSHeadRun.topDef (OpenLaw.row PySem.Challenge.rw_pastfolds_k02_lines_gone_over_sign_by_si).prog 39).name = ("law" : PySem.Str) := by kernel_rfl
      rw [← e]
      exact hmg0
    obtain ⟨fd, prm, sp, b, e, r⟩ := Ev.law_end (P := (PySem.Challenge.rw_pastfolds_k02_lines_gone_over_sign_by_si).prog) (w := w) (hd := EvL.hd) (j := 38) (td := EvL.td) KX G c ex EvL.chk_ok EvL.binds EvL.oks rfl rfl rfl rfl rfl (by decide) EvL.tells hmg
    exact ⟨K, fd, sp, KX, b, e, r⟩
end
