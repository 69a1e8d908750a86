import PyProof.Rows.All
import Wide.All
import OpenK.AllK
import Wide.FinOn
import HandS.ForMost
import HandS.ForExc
import HandS.Lambda
import HandS.SortKw
import HandS.EndTab
import HandS.IsInst
import HandS.StrMore
import HandS.Replace
import HandS.Walk
import HandS.Wide
import HandS.TupAny
import HandS.HotCalls
import HandS.Deep
import HandS.SetKeys
import HandS.TupSets
import HandS.DictTup
import HandS.Head2
import HandS.HeadEnd
import HandS.HeadHook2
import HandS.Defaults
import HandS.Flow
import HandS.ExcCtx
import HandS.Style
import HandS.HeadWalk
import HandS.ExcOwn
import PyProof.ExcBaseAll.ValueError
import HandS.ExcIs
import HandS.HeadHook4
import KE.SortData
import KE.SortKeyed
import KE.DataMinKey
import KE.KDictSum
import KE.KDictCopyH
import PyProof.Draws
import HandS.ReplaceLit
import HandS.ReplaceList
import HandS.HeadHook3
import KE.KStateDown
import HandS.Base
import HandS.Call
import HandS.Ends
import HandS.More
import HandS.Words
import HandS.WordsExc
import HandS.Head0
import HandS.Head1
import HandS.HeadHook1
import PySem.Challenge.RW_dialtables_k42_whole_from_any_home
set_option Elab.async false
set_option linter.all false
set_option maxRecDepth 100000
set_option maxHeartbeats 0
namespace DL
open PySem PySem.Spec PyProof.Rows L2 LamX

/-! ## data -/
inductive D where
  | non | bl (b : Bool) | int (i : Int) | str (s : List Nat) | tup (xs : List D) | lst (xs : List D)
  | scr (ns : List Int) | dct (ks vs : List D) | ref (a : Addr)

inductive Res (α : Type) where
  | ok (a : α) | exc (c : String) | stk

namespace Res
def bind {α β : Type} (x : Res α) (f : α → Res β) : Res β := match x with
  | .ok a => f a | .exc c => .exc c | .stk => .stk
def nox {α : Type} (x : Res α) : Res α := match x with
  | .ok a => .ok a | _ => .stk
@[simp] theorem bind_ok {α β : Type} (a : α) (f : α → Res β) : (Res.ok a).bind f = f a := rfl
@[simp] theorem bind_exc {α β : Type} (c : String) (f : α → Res β) : (Res.exc c : Res α).bind f = .exc c := rfl
@[simp] theorem bind_stk {α β : Type} (f : α → Res β) : (Res.stk : Res α).bind f = .stk := rfl
@[simp] theorem nox_ok {α : Type} (a : α) : (Res.ok a).nox = .ok a := rfl
end Res

def OkS (s : List Nat) : Prop := s.length ≤ sizeLine ∧ ∀ c ∈ s, c < 0x110000
/-- a key of a dict as datum -/
def kD : D → Option Key
  | .int i => some (.inl i)
  | .str s => some (.inr ⟨s.toArray⟩)
  | _ => none
def keyD : Key → D
  | .inl i => .int i
  | .inr s => .str s.cps.toList
def tupD (k : List Key) : D := .tup (k.map keyD)
def KeyOk : Key → Prop
  | .inl _ => True
  | .inr s => OkS s.cps.toList
/-- a dict of these keys, these values -/
def DctAt (H : Hp) (a : Addr) (ks : List D) (xs : List V) : Prop :=
  (∃ kk : List Key, H a = some (.dK (kk.zip xs)) ∧ ks = kk.map keyD ∧ kk.length = xs.length ∧ kk.Nodup ∧ ∀ k ∈ kk, KeyOk k) ∨
  ∃ kk : List (List Key), H a = some (.dT (kk.zip xs)) ∧ ks = kk.map tupD ∧ kk.length = xs.length ∧ kk.Nodup ∧ ∀ k ∈ kk, ∀ x ∈ k, KeyOk x
/-- a tuple that was made -/
def TpAt (_K : PySem.W.Frag) (H : Hp) (a : Addr) (xs : List V) : Prop := H a = some (.tup xs)
theorem TpAt.sq {K : PySem.W.Frag} {H : Hp} {a : Addr} {xs : List V} (h : TpAt K H a xs) : SqT K H a xs := .inl (.inl h)

mutual
def RD (K : PySem.W.Frag) (H : Hp) : V → D → Prop
  | v, .non => v = .non
  | v, .bl b => v = .bl b
  | v, .int i => v = .int i
  | v, .str s => v = .str ⟨s.toArray⟩ ∧ OkS s
  | v, .tup ds => ∃ a vs, v = .ref a ∧ TpAt K H a vs ∧ vs.length ≤ sizeLine ∧ RDs K H vs ds
  | v, .lst ds => ∃ a vs, v = .ref a ∧ H a = some (.lst vs) ∧ vs.length ≤ sizeLine ∧ RDs K H vs ds
  | v, .scr ns => ∃ a, v = .ref a ∧ SqL K H a (ns.map V.int) ∧ ns.length ≤ sizeLine
  | v, .dct ks ds => ∃ a xs, v = .ref a ∧ DctAt H a ks xs ∧ RDs K H xs ds
  | v, .ref a => v = .ref a
def RDs (K : PySem.W.Frag) (H : Hp) : List V → List D → Prop
  | vs, [] => vs = []
  | vs, d :: ds => ∃ v r, vs = v :: r ∧ RD K H v d ∧ RDs K H r ds
end

/-! ## heaps -/
def hide (M : List Addr) (H : Hp) : Hp := fun a => if a ∈ M then none else H a
theorem hide_nil (H : Hp) : hide [] H = H := by funext a; simp [hide]
theorem hide_in {M : List Addr} {H : Hp} {a : Addr} (h : a ∈ M) : hide M H a = none := by simp [hide, h]
theorem hide_out {M : List Addr} {H : Hp} {a : Addr} (h : a ∉ M) : hide M H a = H a := by simp [hide, h]
theorem hide_some {M : List Addr} {H : Hp} {a : Addr} {o : HO} (h : hide M H a = some o) : H a = some o ∧ a ∉ M := by
  by_cases m : a ∈ M
  · rw [hide_in m] at h; cases h
  · rw [hide_out m] at h; exact ⟨h, m⟩
theorem hide_le (M : List Addr) (H : Hp) : ExtN (hide M H) H := fun b o h _ => (hide_some h).1
theorem hide_mono {H H' : Hp} (M : List Addr) (e : ExtN H H') : ExtN (hide M H) (hide M H') := fun b o h n => by
  obtain ⟨h1, h2⟩ := hide_some h
  rw [hide_out h2]; exact e b o h1 n
theorem hide_sub {M N : List Addr} (H : Hp) (h : ∀ a ∈ N, a ∈ M) : ExtN (hide M H) (hide N H) := fun b o q _ => by
  obtain ⟨h1, h2⟩ := hide_some q
  rw [hide_out (fun z => h2 (h b z))]; exact h1

theorem ext_rd {H H' : Hp} {a : Addr} {u : HO} (e : ExtN H H') (n : ∀ ps, u ≠ .tbl ps) (h : Rd H a u) : Rd H' a u := by
  rcases h with h | ⟨o, h⟩
  · exact .inl (e a _ h n)
  · exact .inr ⟨o, e a _ h (fun ps z => by cases z)⟩
theorem ext_sqT {K : PySem.W.Frag} {H H' : Hp} {a : Addr} {xs : List V} (e : ExtN H H') (h : SqT K H a xs) : SqT K H' a xs := by
  rcases h with h | h
  · exact .inl (ext_rd e (fun ps z => by cases z) h)
  · exact .inr h
theorem ext_sqL {K : PySem.W.Frag} {H H' : Hp} {a : Addr} {xs : List V} (e : ExtN H H') (h : SqL K H a xs) : SqL K H' a xs := by
  rcases h with h | h
  · exact .inl (ext_rd e (fun ps z => by cases z) h)
  · exact .inr h
theorem ext_tpAt {K : PySem.W.Frag} {H H' : Hp} {a : Addr} {xs : List V} (e : ExtN H H') (h : TpAt K H a xs) : TpAt K H' a xs := e a _ h (fun ps z => by cases z)
theorem DctAt.ext {H H' : Hp} {a : Addr} {ks : List D} {xs : List V} (e : ∀ o, H a = some o → (∀ ps, o ≠ .tbl ps) → H' a = some o) (h : DctAt H a ks xs) : DctAt H' a ks xs := by
  rcases h with ⟨kk, h1, h2⟩ | ⟨kk, h1, h2⟩
  · exact .inl ⟨kk, e _ h1 (fun ps z => by cases z), h2⟩
  · exact .inr ⟨kk, e _ h1 (fun ps z => by cases z), h2⟩

mutual
theorem RD.ext {K : PySem.W.Frag} {H H' : Hp} (e : ExtN H H') : ∀ {v : V} {d : D}, RD K H v d → RD K H' v d
  | _, .non, h => by simpa only [RD] using h
  | _, .bl _, h => by simpa only [RD] using h
  | _, .int _, h => by simpa only [RD] using h
  | _, .str _, h => by simpa only [RD] using h
  | _, .ref _, h => by simpa only [RD] using h
  | _, .dct _ ds, h => by
    simp only [RD] at h ⊢
    obtain ⟨a, xs, h1, h2, h3⟩ := h
    exact ⟨a, xs, h1, h2.ext (e a), RDs.ext e h3⟩
  | _, .tup ds, h => by
    simp only [RD] at h ⊢
    obtain ⟨a, vs, h1, h2, h3, h4⟩ := h
    exact ⟨a, vs, h1, ext_tpAt e h2, h3, RDs.ext e h4⟩
  | _, .lst ds, h => by
    simp only [RD] at h ⊢
    obtain ⟨a, vs, h1, h2, h3, h4⟩ := h
    exact ⟨a, vs, h1, e a _ h2 (fun ps z => by cases z), h3, RDs.ext e h4⟩
  | _, .scr ns, h => by
    simp only [RD] at h ⊢
    obtain ⟨a, h1, h2, h3⟩ := h
    exact ⟨a, h1, ext_sqL e h2, h3⟩
theorem RDs.ext {K : PySem.W.Frag} {H H' : Hp} (e : ExtN H H') : ∀ {vs : List V} {ds : List D}, RDs K H vs ds → RDs K H' vs ds
  | _, [], h => by simpa only [RDs] using h
  | _, d :: ds, h => by
    simp only [RDs] at h ⊢
    obtain ⟨v, r, h1, h2, h3⟩ := h
    exact ⟨v, r, h1, RD.ext e h2, RDs.ext e h3⟩
end

section
variable {K : PySem.W.Frag} {H : Hp}
theorem RDs.nil : RDs K H [] [] := by simp only [RDs]
theorem RDs.cons {v : V} {vs : List V} {d : D} {ds : List D} (h : RD K H v d) (t : RDs K H vs ds) : RDs K H (v :: vs) (d :: ds) := by
  simp only [RDs]; exact ⟨v, vs, rfl, h, t⟩
theorem RDs.len : ∀ {vs : List V} {ds : List D}, RDs K H vs ds → vs.length = ds.length
  | _, [], h => by simp only [RDs] at h; simp [h]
  | _, d :: ds, h => by
    simp only [RDs] at h
    obtain ⟨v, r, rfl, _, h3⟩ := h
    simp [RDs.len h3]
theorem RDs.get : ∀ {vs : List V} {ds : List D} {i : Nat} {d : D}, RDs K H vs ds → ds[i]? = some d → ∃ v, vs[i]? = some v ∧ RD K H v d
  | _, [], _, _, _, e => by simp at e
  | _, d :: ds, 0, _, h, e => by
    simp only [RDs] at h
    obtain ⟨v, r, rfl, h2, _⟩ := h
    simp at e; subst e
    exact ⟨v, rfl, h2⟩
  | _, d :: ds, i + 1, x, h, e => by
    simp only [RDs] at h
    obtain ⟨v, r, rfl, _, h3⟩ := h
    obtain ⟨u, h1, h2⟩ := RDs.get (i := i) (d := x) h3 (by simpa using e)
    exact ⟨u, by simpa using h1, h2⟩
theorem RDs.append : ∀ {vs us : List V} {ds es : List D}, RDs K H vs ds → RDs K H us es → RDs K H (vs ++ us) (ds ++ es)
  | _, _, [], _, h, t => by simp only [RDs] at h; subst h; exact t
  | _, _, d :: ds, _, h, t => by
    simp only [RDs] at h
    obtain ⟨v, r, rfl, h2, h3⟩ := h
    exact .cons h2 (RDs.append h3 t)
theorem RDs.take : ∀ {vs : List V} {ds : List D} (n : Nat), RDs K H vs ds → RDs K H (vs.take n) (ds.take n)
  | _, _, 0, _ => by simpa using RDs.nil
  | _, [], n + 1, h => by simp only [RDs] at h; subst h; simpa using RDs.nil
  | _, d :: ds, n + 1, h => by
    simp only [RDs] at h
    obtain ⟨v, r, rfl, h2, h3⟩ := h
    exact .cons h2 (RDs.take n h3)
theorem RDs.drop : ∀ {vs : List V} {ds : List D} (n : Nat), RDs K H vs ds → RDs K H (vs.drop n) (ds.drop n)
  | _, _, 0, h => by simpa using h
  | _, [], n + 1, h => by simp only [RDs] at h; subst h; simpa using RDs.nil
  | _, d :: ds, n + 1, h => by
    simp only [RDs] at h
    obtain ⟨v, r, rfl, h2, h3⟩ := h
    exact RDs.drop n h3
theorem RDs.set : ∀ {vs : List V} {ds : List D} {v : V} {d : D} (i : Nat), RDs K H vs ds → RD K H v d → RDs K H (vs.set i v) (ds.set i d)
  | _, [], _, _, i, h, _ => by simp only [RDs] at h; subst h; simpa using RDs.nil
  | _, d :: ds, _, _, 0, h, t => by
    simp only [RDs] at h
    obtain ⟨v, r, rfl, h2, h3⟩ := h
    exact .cons t h3
  | _, d :: ds, _, _, i + 1, h, t => by
    simp only [RDs] at h
    obtain ⟨v, r, rfl, h2, h3⟩ := h
    exact .cons h2 (RDs.set i h3 t)
theorem RDs.reverse : ∀ {vs : List V} {ds : List D}, RDs K H vs ds → RDs K H vs.reverse ds.reverse
  | _, [], h => by simp only [RDs] at h; subst h; simpa using RDs.nil
  | _, d :: ds, h => by
    simp only [RDs] at h
    obtain ⟨v, r, rfl, h2, h3⟩ := h
    rw [List.reverse_cons, List.reverse_cons]
    exact (RDs.reverse h3).append (.cons h2 .nil)
theorem RDs.one {v : V} {d : D} (h : RD K H v d) : RDs K H [v] [d] := .cons h .nil
theorem RDs.ints : ∀ (ns : List Int), RDs K H (ns.map V.int) (ns.map D.int)
  | [] => .nil
  | n :: ns => .cons (by simp only [RD]) (RDs.ints ns)
end

/-! ## results and readings -/
structure DC where
  K : PySem.W.Frag
  T : List (Addr × Str)
  E : XK
structure ExtT (C : DC) (H H' : Hp) : Prop where
  old : ExtN H H'
  tab : Tabs C.T H'
/-- what is hidden stands; no table, no tuple is hidden -/
structure HidOk (M : List Addr) (H : Hp) : Prop where
  at_ : ∀ a ∈ M, ∃ o, H a = some o ∧ ∀ ps, o ≠ .tbl ps
  nt : ∀ a ∈ M, ∀ xs, H a ≠ some (.tup xs)
theorem HidOk.ext {M : List Addr} {H H' : Hp} (h : HidOk M H) (e : ExtN H H') : HidOk M H' := by
  refine ⟨fun a ha => ?_, fun a ha xs q => ?_⟩
  · obtain ⟨o, h1, h2⟩ := h.at_ a ha
    exact ⟨o, e a o h1 h2, h2⟩
  · obtain ⟨o, h1, h2⟩ := h.at_ a ha
    rw [e a o h1 h2] at q
    exact h.nt a ha xs (by rw [h1]; exact q)
theorem HidOk.fresh {M : List Addr} {H : Hp} (h : HidOk M H) {p : Addr} (n : H p = none) : p ∉ M := fun z => by
  obtain ⟨o, h1, _⟩ := h.at_ p z
  rw [n] at h1; cases h1
theorem HidOk.nil {H : Hp} : HidOk [] H := ⟨fun a h => (nomatch h), fun a h => (nomatch h)⟩
theorem HidOk.sub {M N : List Addr} {H : Hp} (h : HidOk M H) (s : ∀ a ∈ N, a ∈ M) : HidOk N H := ⟨fun a ha => h.at_ a (s a ha), fun a ha => h.nt a (s a ha)⟩
theorem HidOk.more {M new : List Addr} {H : Hp} (h : HidOk M H) (s : ∀ a ∈ new, ∃ o, H a = some o ∧ (∀ ps, o ≠ .tbl ps) ∧ ∀ xs, o ≠ .tup xs) : HidOk (new ++ M) H := by
  refine ⟨fun a ha => ?_, fun a ha xs q => ?_⟩
  · rcases List.mem_append.mp ha with ha | ha
    · obtain ⟨o, h1, h2, _⟩ := s a ha
      exact ⟨o, h1, h2⟩
    · exact h.at_ a ha
  · rcases List.mem_append.mp ha with ha | ha
    · obtain ⟨o, h1, _, h2⟩ := s a ha
      rw [h1] at q; cases q; exact h2 xs rfl
    · exact h.nt a ha xs q
theorem HidOk.lst {M : List Addr} {H : Hp} (h : HidOk M H) {p : Addr} {vs : List V} (hp : H p = some (.lst vs)) : HidOk (p :: M) H := by
  refine h.more (new := [p]) fun a ha => ?_
  rw [List.mem_singleton.mp ha]
  refine ⟨_, hp, ?_, ?_⟩
  · intro ps z; cases z
  · intro ps z; cases z
theorem ExtT.refl {C : DC} {H : Hp} (t : Tabs C.T H) : ExtT C H H := ⟨.refl H, t⟩
theorem ExtT.trans {C : DC} {H H1 H2 : Hp} (a : ExtT C H H1) (b : ExtT C H1 H2) : ExtT C H H2 := ⟨a.old.trans b.old, b.tab⟩
theorem ext_new {H : Hp} {p : Addr} {o : HO} (n : H p = none) : ∀ b u, H b = some u → upd H p o b = some u := fun b u e => by
  rw [upd_ne (ne_of_none e n)]; exact e
theorem ExtT.new {C : DC} {H : Hp} {p : Addr} {o : HO} (t : Tabs C.T H) (n : H p = none) : ExtT C H (upd H p o) :=
  ⟨.of (ext_new n), t.ext (ext_new n)⟩
theorem hide_upd {M : List Addr} {H : Hp} {p : Addr} {o : HO} (h : p ∉ M) : hide M (upd H p o) p = some o := by
  rw [hide_out h, upd_same]

abbrev EnvD := List (Option D)
structure StE (C : DC) (M : List Addr) (σ : L2.St) (ρ : EnvD) (H : Hp) : Prop where
  tab : Tabs C.T H
  hid : HidOk M H
  len : σ.length = ρ.length
  env : ∀ (i : Nat) (d : D), ρ[i]? = some (some d) → ∃ v, σ[i]? = some (some v) ∧ RD C.K (hide M H) v d
theorem StE.ext {C : DC} {M : List Addr} {σ : L2.St} {ρ : EnvD} {H H' : Hp} (s : StE C M σ ρ H) (e : ExtT C H H') : StE C M σ ρ H' :=
  ⟨e.tab, s.hid.ext e.old, s.len, fun i d h => let ⟨v, h1, h2⟩ := s.env i d h; ⟨v, h1, h2.ext (hide_mono M e.old)⟩⟩

def aft {α β : Type} (C : DC) (M : List Addr) (H : Hp) (Rel : Hp → β → α → Prop) (r : Res α) (Q : β → Hp → Prop) : Prop := match r with
  | .ok a => ∀ b H', ExtT C H H' → Rel (hide M H') b a → Q b H'
  | .exc c => ∀ H', ExtT C H H' → C.E (.ref (He.ga C.K c)) none H'
  | .stk => False
section
variable {α β γ δ : Type} {C : DC} {M : List Addr} {H H' : Hp} {Rel : Hp → β → α → Prop} {Rel2 : Hp → δ → γ → Prop}
theorem aft.ext {r : Res α} {Q : β → Hp → Prop} (h : aft C M H Rel r Q) (e : ExtT C H H') : aft C M H' Rel r Q := by
  cases r with
  | ok a => exact fun b H2 e2 r => h b H2 (e.trans e2) r
  | exc c => exact fun H2 e2 => h H2 (e.trans e2)
  | stk => exact h
theorem aft.imp {r : Res α} {Q Q' : β → Hp → Prop} (h : aft C M H Rel r Q) (i : ∀ b H1, Q b H1 → Q' b H1) : aft C M H Rel r Q' := by
  cases r with
  | ok a => exact fun b H2 e2 r => i _ _ (h b H2 e2 r)
  | exc c => exact h
  | stk => exact h
theorem aft.bind {x : Res α} {f : α → Res γ} {Q : δ → Hp → Prop} (h : aft C M H Rel2 (x.bind f) Q) :
    aft C M H Rel x (fun b H1 => ∃ a, x = .ok a ∧ ExtT C H H1 ∧ Rel (hide M H1) b a ∧ aft C M H1 Rel2 (f a) Q) := by
  cases x with
  | ok a => exact fun b H2 e2 r => ⟨a, rfl, e2, r, aft.ext h e2⟩
  | exc c => exact h
  | stk => exact h
end

/-- the reading of what gives m -/
def tG {α β : Type} (C : DC) (Rel : Hp → β → α → Prop) (m : EnvD → Res α) : L2.St → Hp → (β → Hp → Prop) → Prop :=
  fun σ H Q => ∃ M ρ, StE C M σ ρ H ∧ aft C M H Rel (m ρ) Q
abbrev tD (C : DC) (m : EnvD → Res D) : TE := tG C (RD C.K) m
abbrev relB : Hp → Bool → Bool → Prop := fun _ b a => b = a
abbrev tTD (C : DC) (m : EnvD → Res Bool) : TT := tG C relB m
abbrev tAD (C : DC) (m : EnvD → Res (List D)) : TA := tG C (RDs C.K) m
abbrev relO : Hp → Option Int → Option Int → Prop := fun _ b a => b = a
abbrev tOD (C : DC) (m : EnvD → Res (Option Int)) : TO := tG C relO m

/-! ## implications of judgements -/
section
variable {X : Cx}
theorem pe_imp {e : Expr} {t t' : TE} (h : PE X e t) (i : ∀ σ H Q, t' σ H Q → t σ H Q) : PE X e t' := ⟨fun pins s σ H Q I q => h.run pins s σ H Q I (i σ H Q q)⟩
theorem pt_imp {e : Expr} {t t' : TT} (h : PT X e t) (i : ∀ σ H Q, t' σ H Q → t σ H Q) : PT X e t' := ⟨fun pins s σ H Q I q => h.run pins s σ H Q I (i σ H Q q)⟩
theorem pw_imp {e : Expr} {t t' : TT} (h : PW X e t) (i : ∀ σ H Q, t' σ H Q → t σ H Q) : PW X e t' := ⟨fun wh pins s σ H Q I q => h.run wh pins s σ H Q I (i σ H Q q)⟩
theorem pa_imp {e : List Expr} {t t' : TA} (h : PA X e t) (i : ∀ σ H Q, t' σ H Q → t σ H Q) : PA X e t' := ⟨fun pos pins s σ H Q I q => h.run pos pins s σ H Q I (i σ H Q q)⟩
theorem ps_imp {e : Stmt} {t t' : TS} (h : PS X e t) (i : ∀ D σ H, t' D σ H → t D σ H) : PS X e t' := ⟨fun pins s σ H D I q => h.run pins s σ H D I (i D σ H q)⟩
theorem pss_imp {e : List Stmt} {t t' : TS} (h : PSs X e t) (i : ∀ D σ H, t' D σ H → t D σ H) : PSs X e t' := ⟨fun pins s σ H D I q => h.run pins s σ H D I (i D σ H q)⟩
end

/-! ## names, constants, displays -/
section
variable {X : Cx} {T : List (Addr × Str)} {E : XK}
abbrev dc (X : Cx) (T : List (Addr × Str)) (E : XK) : DC := ⟨X.K, T, E⟩
def mVar (i : Nat) : EnvD → Res D := fun ρ => match ρ[i]? with
  | some (some d) => .ok d
  | _ => .stk
def mC (d : D) : EnvD → Res D := fun _ => .ok d
theorem qd_var {i : Nat} {e : Expr} (h : PE X e (tVar i)) : PE X e (tD (dc X T E) (mVar i)) := pe_imp h fun σ H Q ⟨M, ρ, st, q⟩ => by
  unfold mVar at q
  cases e : ρ[i]? with
  | none => rw [e] at q; exact q.elim
  | some o =>
    cases o with
    | none => rw [e] at q; exact q.elim
    | some d =>
      rw [e] at q
      obtain ⟨v, h1, h2⟩ := st.env i d e
      exact ⟨v, h1, q v H (.refl st.tab) h2⟩
/-- the name in slot i -/
theorem dv (i : Nat) {x : Str} {pos : Pos} (hN : X.N[i]? = some x := by rfl) (hv : Vis X.env.scope x := by first | exact Or.inl rfl | exact Or.inr (Or.inl rfl) | exact Or.inr (Or.inr rfl)) (hd : (x == ("__debug__" : Str)) = false := by decide)
    (hcd : (x == ("__classdict__" : Str)) = false := by decide) : PE X (.Name x pos) (tD (dc X T E) (mVar i)) := qd_var (pe_var hN hv hd hcd)
theorem qd_c {e : Expr} {v : V} {d : D} (h : PE X e (tC v)) (r : ∀ H, RD X.K H v d) : PE X e (tD (dc X T E) (mC d)) := pe_imp h fun σ H Q ⟨M, ρ, st, q⟩ => q v H (.refl st.tab) (r _)
theorem d_int {i j pos} : PE X (.Constant (.int i) j pos) (tD (dc X T E) (mC (.int i))) := qd_c pe_int fun H => by simp only [RD]
theorem d_bl {b j pos} : PE X (.Constant (.bool b) j pos) (tD (dc X T E) (mC (.bl b))) := qd_c pe_bl fun H => by simp only [RD]
theorem d_non {j pos} : PE X (.Constant .none j pos) (tD (dc X T E) (mC .non)) := qd_c pe_non fun H => by simp only [RD]
def okSB (s : List Nat) : Bool := decide (s.length ≤ 100000) && s.all fun c => decide (c < 0x110000)
theorem okS_of {s : List Nat} (h : okSB s = true) : OkS s := by
  unfold okSB at h
  obtain ⟨h1, h2⟩ := Bool.and_eq_true_iff.mp h
  refine ⟨Nat.le_trans (of_decide_eq_true h1) (by rw [sizeLine_eq]; decide), fun c hc => ?_⟩
  exact of_decide_eq_true (List.all_eq_true.mp h2 c hc)
theorem d_str {x : Str} {s : List Nat} {j pos} (e : x = ⟨s.toArray⟩ := by rfl) (h : okSB s = true := by rfl) : PE X (.Constant (.str x) j pos) (tD (dc X T E) (mC (.str s))) := qd_c pe_str fun H => by
  simp only [RD]; exact ⟨by rw [e], okS_of h⟩
/-- a module's constant -/
theorem d_glob {x : Str} {v : V} {d : D} {u : Value} {pos : Pos} (hg : Gl X x) (hm : X.mg x = some u) (r : RelV v u) (rd : ∀ H, RD X.K H v d) (hd : (x == ("__debug__" : Str)) = false := by decide) : PE X (.Name x pos) (tD (dc X T E) (mC d)) := qd_c (pe_glob hg hm r hd) rd

/-! arguments -/
def aNil : EnvD → Res (List D) := fun _ => .ok []
def aCons (m : EnvD → Res D) (r : EnvD → Res (List D)) : EnvD → Res (List D) := fun ρ => (m ρ).bind fun d => (r ρ).bind fun ds => .ok (d :: ds)
theorem da_nil : PA X [] (tAD (dc X T E) aNil) := pa_imp pa_nil fun σ H Q ⟨M, ρ, st, q⟩ => q [] H (.refl st.tab) .nil
theorem da_cons {e : Expr} {es : List Expr} {m : EnvD → Res D} {r : EnvD → Res (List D)} (ha : PE X e (tD (dc X T E) m)) (hr : PA X es (tAD (dc X T E) r)) (hs : starEach (e :: es) X.env = (false, eval e X.env) :: starEach es X.env := by rfl) :
    PA X (e :: es) (tAD (dc X T E) (aCons m r)) := pa_imp (pa_cons ha hr hs) fun σ H Q ⟨M, ρ, st, q⟩ => by
  refine ⟨M, ρ, st, (aft.bind (Rel := RD X.K) q).imp fun v H1 ⟨d, _, e1, r1, q1⟩ => ⟨M, ρ, st.ext e1, (aft.bind (Rel := RDs X.K) q1).imp fun vs H2 ⟨ds, _, e2, r2, q2⟩ => ?_⟩⟩
  exact q2 _ H2 (.refl e2.tab) (.cons (r1.ext (hide_mono M e2.old)) r2)
theorem rd_tup_new {K : PySem.W.Frag} {M : List Addr} {H : Hp} {p : Addr} {vs : List V} {ds : List D} (hid : HidOk M H) (n : H p = none) (z : vs.length ≤ sizeLine) (r : RDs K (hide M H) vs ds) : RD K (hide M (upd H p (.tup vs))) (.ref p) (.tup ds) := by
  simp only [RD]
  exact ⟨p, vs, rfl, hide_upd (hid.fresh n), z, r.ext (hide_mono M (.of (ext_new n)))⟩
theorem rd_lst_new {K : PySem.W.Frag} {M : List Addr} {H : Hp} {p : Addr} {vs : List V} {ds : List D} (hid : HidOk M H) (n : H p = none) (z : vs.length ≤ sizeLine) (r : RDs K (hide M H) vs ds) : RD K (hide M (upd H p (.lst vs))) (.ref p) (.lst ds) := by
  simp only [RD]
  exact ⟨p, vs, rfl, hide_upd (hid.fresh n), z, r.ext (hide_mono M (.of (ext_new n)))⟩
def LIM : Nat := 1000000
theorem lim_le {n : Nat} (h : n ≤ LIM) : n ≤ sizeLine := Nat.le_trans h (by rw [sizeLine_eq]; decide)
def mTup (r : EnvD → Res (List D)) : EnvD → Res D := fun ρ => (r ρ).bind fun ds => if ds.length ≤ LIM then .ok (.tup ds) else .stk
def mLst (r : EnvD → Res (List D)) : EnvD → Res D := fun ρ => (r ρ).bind fun ds => if ds.length ≤ LIM then .ok (.lst ds) else .stk
theorem d_tup {es : List Expr} {x1 : Nat} {pos : Pos} {r : EnvD → Res (List D)} (h : PA X es (tAD (dc X T E) r)) : PE X (.Tuple es x1 pos) (tD (dc X T E) (mTup r)) := pe_imp (pe_tup h) fun σ H Q ⟨M, ρ, st, q⟩ => by
  refine ⟨M, ρ, st, (aft.bind (Rel := RDs X.K) q).imp fun vs H1 ⟨ds, _, e1, r1, q1⟩ => ?_⟩
  by_cases hl : ds.length ≤ LIM
  · rw [if_pos hl] at q1
    have hv : vs.length ≤ sizeLine := by rw [r1.len]; exact lim_le hl
    exact ⟨hv, fun p n => q1 _ _ (.new e1.tab n) (rd_tup_new (st.hid.ext e1.old) n hv r1)⟩
  · rw [if_neg hl] at q1; exact q1.elim
theorem d_lst {es : List Expr} {pos : Pos} {r : EnvD → Res (List D)} (h : PA X es (tAD (dc X T E) r)) : PE X (.List es pos) (tD (dc X T E) (mLst r)) := pe_imp (pe_lst h) fun σ H Q ⟨M, ρ, st, q⟩ => by
  refine ⟨M, ρ, st, (aft.bind (Rel := RDs X.K) q).imp fun vs H1 ⟨ds, _, e1, r1, q1⟩ => ?_⟩
  by_cases hl : ds.length ≤ LIM
  · rw [if_pos hl] at q1
    have hv : vs.length ≤ sizeLine := by rw [r1.len]; exact lim_le hl
    exact ⟨hv, fun p n => q1 _ _ (.new e1.tab n) (rd_lst_new (st.hid.ext e1.old) n hv r1)⟩
  · rw [if_neg hl] at q1; exact q1.elim
end
end DL
namespace DL
open PySem PySem.Spec PyProof.Rows L2 LamX
/-! ## equality of data -/
mutual
def D.toPy : D → PyData
  | .non => .none | .bl b => .bool b | .int i => .int i | .str s => .str ⟨s.toArray⟩
  | .tup xs => .tuple (toPys xs) | .lst xs => .list (toPys xs) | .scr ns => .list (ns.map PyData.int)
  | .dct _ _ => .none | .ref _ => .none
def toPys : List D → List PyData
  | [] => [] | d :: ds => d.toPy :: toPys ds
end
mutual
/-- the depth; what is no data: 100 -/
def D.rk : D → Nat
  | .tup xs => rks xs + 1 | .lst xs => rks xs + 1 | .scr _ => 1 | .dct _ _ => 100 | .ref _ => 100 | _ => 0
def rks : List D → Nat
  | [] => 0 | d :: ds => max d.rk (rks ds)
end
mutual
theorem toPy_depth : ∀ d : D, d.toPy.depth ≤ d.rk
  | .non => by simp [D.toPy, PyData.depth]
  | .bl _ => by simp [D.toPy, PyData.depth]
  | .int _ => by simp [D.toPy, PyData.depth]
  | .str _ => by simp [D.toPy, PyData.depth]
  | .tup xs => by simp only [D.toPy, PyData.depth, D.rk]; have := toPys_depth xs; omega
  | .lst xs => by simp only [D.toPy, PyData.depth, D.rk]; have := toPys_depth xs; omega
  | .scr ns => by
    simp only [D.toPy, PyData.depth, D.rk]
    have : ∀ ns : List Int, PyData.depthAll (ns.map PyData.int) = 0 := fun ns => by
      induction ns with
      | nil => rfl
      | cons n ns ih => simp [PyData.depthAll, PyData.depth, ih]
    rw [this]; omega
  | .dct _ _ => by simp [D.toPy, PyData.depth]
  | .ref _ => by simp [D.toPy, PyData.depth]
theorem toPys_depth : ∀ ds : List D, PyData.depthAll (toPys ds) ≤ rks ds
  | [] => by simp [toPys, PyData.depthAll, rks]
  | d :: ds => by simp only [toPys, PyData.depthAll, rks]; have := toPy_depth d; have := toPys_depth ds; omega
end
theorem rk_cons {d : D} {ds : List D} {n : Nat} (h : rks (d :: ds) ≤ n) : d.rk ≤ n ∧ rks ds ≤ n := by
  simp only [rks] at h; omega
theorem strOk_of {s : List Nat} (h : OkS s) : PyData.strOk ⟨s.toArray⟩ = true := by
  unfold PyData.strOk
  simp only [Array.all_eq_true]
  intro i hi
  have : s.toArray[i] ∈ s := by simp at hi ⊢
  exact decide_eq_true (h.2 _ this)
theorem ints_dp {K : PySem.W.Frag} {H : Hp} : ∀ ns : List Int, DpAll K H (ns.map V.int) (ns.map PyData.int)
  | [] => .nil
  | n :: ns => .cons (.int n) (ints_dp ns)
theorem ints_can : ∀ ns : List Int, PyData.canLayAll0 (ns.map PyData.int) = true
  | [] => by simp [PyData.canLayAll0]
  | n :: ns => by simp [PyData.canLayAll0, PyData.canLay0, ints_can ns]
mutual
theorem RD.dp {K : PySem.W.Frag} {H : Hp} : ∀ {v : V} {d : D}, RD K H v d → d.rk ≤ 60 → Dp K H v d.toPy ∧ d.toPy.canLay0 = true
  | v, .non, h, _ => by simp only [RD] at h; subst h; exact ⟨by simp only [D.toPy]; exact .non, by simp [D.toPy, PyData.canLay0]⟩
  | v, .bl _, h, _ => by simp only [RD] at h; subst h; exact ⟨by simp only [D.toPy]; exact .bl _, by simp [D.toPy, PyData.canLay0]⟩
  | v, .int _, h, _ => by simp only [RD] at h; subst h; exact ⟨by simp only [D.toPy]; exact .int _, by simp [D.toPy, PyData.canLay0]⟩
  | v, .str s, h, _ => by
    simp only [RD] at h; obtain ⟨rfl, h2⟩ := h
    exact ⟨by simp only [D.toPy]; exact .str _, by simp only [D.toPy, PyData.canLay0]; exact strOk_of h2⟩
  | v, .tup ds, h, hr => by
    simp only [RD] at h
    obtain ⟨a, vs, rfl, h2, _, h4⟩ := h
    have hr' : rks ds ≤ 60 := by simp only [D.rk] at hr; omega
    obtain ⟨p, q⟩ := RDs.dp h4 hr'
    exact ⟨by simp only [D.toPy]; exact .tup h2.sq p, by simp only [D.toPy, PyData.canLay0]; exact q⟩
  | v, .lst ds, h, hr => by
    simp only [RD] at h
    obtain ⟨a, vs, rfl, h2, _, h4⟩ := h
    have hr' : rks ds ≤ 60 := by simp only [D.rk] at hr; omega
    obtain ⟨p, q⟩ := RDs.dp h4 hr'
    exact ⟨by simp only [D.toPy]; exact .lst (.of h2) p, by simp only [D.toPy, PyData.canLay0]; exact q⟩
  | v, .scr ns, h, _ => by
    simp only [RD] at h
    obtain ⟨a, rfl, h2, _⟩ := h
    exact ⟨by simp only [D.toPy]; exact .lst h2 (ints_dp ns), by simp only [D.toPy, PyData.canLay0]; exact ints_can ns⟩
  | v, .dct _ _, _, hr => by simp only [D.rk] at hr; omega
  | v, .ref _, _, hr => by simp only [D.rk] at hr; omega
theorem RDs.dp {K : PySem.W.Frag} {H : Hp} : ∀ {vs : List V} {ds : List D}, RDs K H vs ds → rks ds ≤ 60 → DpAll K H vs (toPys ds) ∧ PyData.canLayAll0 (toPys ds) = true
  | vs, [], h, _ => by simp only [RDs] at h; subst h; exact ⟨by simp only [toPys]; exact .nil, by simp [toPys, PyData.canLayAll0]⟩
  | vs, d :: ds, h, hr => by
    simp only [RDs] at h
    obtain ⟨v, r, rfl, h2, h3⟩ := h
    obtain ⟨r1, r2⟩ := rk_cons hr
    obtain ⟨p1, q1⟩ := RD.dp h2 r1
    obtain ⟨p2, q2⟩ := RDs.dp h3 r2
    exact ⟨by simp only [toPys]; exact .cons p1 p2, by simp [toPys, PyData.canLayAll0, q1, q2]⟩
end
theorem RD.shaped {K : PySem.W.Frag} {H : Hp} {v : V} {d : D} (h : RD K H v d) (hr : d.rk ≤ 60) : Dp K H v d.toPy ∧ SeqAt.shaped d.toPy = true := by
  obtain ⟨p, q⟩ := h.dp hr
  refine ⟨p, ?_⟩
  unfold SeqAt.shaped
  rw [q, Bool.true_and]
  exact decide_eq_true (Nat.le_trans (toPy_depth d) (by omega))
def D.eqv (a b : D) : Bool := PyData.eqv a.toPy b.toPy

/-! ## operations by values -/
def R2D (C : DC) (r : R2) (f : D → D → Res D) : Prop := ∀ M H x y a b Q, Tabs C.T H → HidOk M H → RD C.K (hide M H) x a → RD C.K (hide M H) y b → aft C M H (RD C.K) (f a b) Q → r x y H Q
def m2 (f : D → D → Res D) (ma mb : EnvD → Res D) : EnvD → Res D := fun ρ => (ma ρ).bind fun a => (mb ρ).bind fun b => f a b
def asB : D → Res Bool
  | .bl b => .ok b
  | _ => .stk
def mB (m : EnvD → Res D) : EnvD → Res Bool := fun ρ => (m ρ).bind asB
section
variable {X : Cx} {T : List (Addr × Str)} {E : XK} {a b c : Expr} {pos : Pos} {ma mb mc : EnvD → Res D}
theorem op2_imp {r : R2} {f : D → D → Res D} (hr : R2D (dc X T E) r f) : ∀ σ H Q, tD (dc X T E) (m2 f ma mb) σ H Q → tOp r (tD (dc X T E) ma) (tD (dc X T E) mb) σ H Q := fun σ H Q ⟨M, ρ, st, q⟩ => by
  refine ⟨M, ρ, st, (aft.bind (Rel := RD X.K) q).imp fun x H1 ⟨a, _, e1, ra, h1⟩ => ⟨M, ρ, st.ext e1, (aft.bind (Rel := RD X.K) h1).imp fun y H2 ⟨b, _, e2, rb, h2⟩ => ?_⟩⟩
  exact hr M H2 x y a b Q e2.tab ((st.hid.ext e1.old).ext e2.old) (ra.ext (hide_mono M e2.old)) rb h2
theorem d_op {op : Operator} {r : R2} {f : D → D → Res D} (ho : OpR X (binaryOp op) r) (hr : R2D (dc X T E) r f) (ha : PE X a (tD (dc X T E) ma)) (hb : PE X b (tD (dc X T E) mb)) : PE X (.BinOp a op b pos) (tD (dc X T E) (m2 f ma mb)) :=
  pe_imp (pe_op ho ha hb) (op2_imp hr)
theorem d_cmp {op : CmpOp} {r : R2} {f : D → D → Res D} (ho : OpR X (compareOp op) r) (hr : R2D (dc X T E) r f) (ha : PE X a (tD (dc X T E) ma)) (hb : PE X b (tD (dc X T E) mb)) (hm : behindInMarks op b = false) : PE X (.Compare a [op] [b] pos) (tD (dc X T E) (m2 f ma mb)) :=
  pe_imp (pe_cmpR ho ha hb hm) (op2_imp hr)
theorem test_imp {t : TE} {m : EnvD → Res D} (h : ∀ σ H Q, tD (dc X T E) m σ H Q → t σ H Q) : ∀ σ H Q, tTD (dc X T E) (mB m) σ H Q → t σ H fun x H' => ∃ k, x = .bl k ∧ Q k H' := fun σ H Q ⟨M, ρ, st, q⟩ => by
  refine h σ H _ ⟨M, ρ, st, (aft.bind (Rel := RD X.K) q).imp fun x H1 ⟨a, _, e1, ra, h1⟩ => ?_⟩
  cases a with
  | bl k =>
    simp only [RD] at ra
    exact ⟨k, ra, h1 k H1 (.refl e1.tab) rfl⟩
  | _ => exact h1.elim
theorem t_cmp {op : CmpOp} {r : R2} {f : D → D → Res D} (ho : OpR X (compareOp op) r) (hr : R2D (dc X T E) r f) (ha : PE X a (tD (dc X T E) ma)) (hb : PE X b (tD (dc X T E) mb)) (hm : behindInMarks op b = false) : PT X (.Compare a [op] [b] pos) (tTD (dc X T E) (mB (m2 f ma mb))) :=
  pt_imp (pt_cmpR ho ha hb hm) (test_imp (op2_imp hr))
/-- an expression that is a truth, as a test -/
theorem t_val {e : Expr} {m : EnvD → Res D} (h : PE X e (tD (dc X T E) m)) (he : ∀ whole, isTrue e X.env whole = (do let v ← whole; standAt e.pos; holding [v] (truthy v)) := by intro _; rfl) : PT X e (tTD (dc X T E) (mB m)) :=
  pt_imp (pt_val h he) (test_imp fun _ _ _ h => h)
/-! chains -/
def mChain (f g : D → D → Res D) (ma mb mc : EnvD → Res D) : EnvD → Res D := fun ρ => (ma ρ).bind fun a => (mb ρ).bind fun b => (f a b).bind fun k => (asB k).bind fun k => if k = true then (mc ρ).bind fun c => g b c else .ok (.bl false)
theorem chain_imp {r r' : R2} {f g : D → D → Res D} (hr : R2D (dc X T E) r f) (hr' : R2D (dc X T E) r' g) : ∀ σ H Q, tD (dc X T E) (mChain f g ma mb mc) σ H Q → tChain r r' (tD (dc X T E) ma) (tD (dc X T E) mb) (tD (dc X T E) mc) σ H Q := fun σ H Q ⟨M, ρ, st, q⟩ => by
  refine ⟨M, ρ, st, (aft.bind (Rel := RD X.K) q).imp fun x H1 ⟨a, _, e1, ra, h1⟩ => ⟨M, ρ, st.ext e1, (aft.bind (Rel := RD X.K) h1).imp fun y H2 ⟨b, _, e2, rb, h2⟩ => ?_⟩⟩
  have hid2 := (st.hid.ext e1.old).ext e2.old
  refine hr M H2 x y a b _ e2.tab hid2 (ra.ext (hide_mono M e2.old)) rb ((aft.bind (Rel := RD X.K) h2).imp fun z H3 ⟨k, _, e3, rk, h3⟩ => ?_)
  cases k with
  | bl k =>
    simp only [RD] at rk
    refine ⟨k, rk, ?_⟩
    have h4 : aft (dc X T E) M H3 (RD X.K) (if k = true then (mc ρ).bind fun c => g b c else .ok (.bl false)) Q := h3
    cases k with
    | true =>
      rw [if_pos rfl] at h4 ⊢
      refine ⟨M, ρ, ((st.ext e1).ext e2).ext e3, (aft.bind (Rel := RD X.K) h4).imp fun w H4 ⟨c, _, e4, rc, h5⟩ => ?_⟩
      exact hr' M H4 y w b c Q e4.tab ((hid2.ext e3.old).ext e4.old) (rb.ext (hide_mono M (e3.old.trans e4.old))) rc h5
    | false =>
      rw [if_neg (by decide)] at h4 ⊢
      exact h4 _ H3 (.refl e3.tab) (by simp only [RD])
  | _ => exact h3.elim
theorem d_chain {op op' : CmpOp} {r r' : R2} {f g : D → D → Res D} (ho : OpR X (compareOp op) r) (ho' : OpR X (compareOp op') r') (hr : R2D (dc X T E) r f) (hr' : R2D (dc X T E) r' g)
    (ha : PE X a (tD (dc X T E) ma)) (hb : PE X b (tD (dc X T E) mb)) (hc : PE X c (tD (dc X T E) mc)) (hm : lastMarks [op, op'] [b, c] = false := by with_unfolding_all rfl) : PE X (.Compare a [op, op'] [b, c] pos) (tD (dc X T E) (mChain f g ma mb mc)) := pe_imp (pe_chain ho ho' ha hb hc hm) (chain_imp hr hr')
theorem t_chain {op op' : CmpOp} {r r' : R2} {f g : D → D → Res D} (ho : OpR X (compareOp op) r) (ho' : OpR X (compareOp op') r') (hr : R2D (dc X T E) r f) (hr' : R2D (dc X T E) r' g)
    (ha : PE X a (tD (dc X T E) ma)) (hb : PE X b (tD (dc X T E) mb)) (hc : PE X c (tD (dc X T E) mc)) (hm : lastMarks [op, op'] [b, c] = false := by with_unfolding_all rfl) : PT X (.Compare a [op, op'] [b, c] pos) (tTD (dc X T E) (mB (mChain f g ma mb mc))) := pt_imp (pt_chain ho ho' ha hb hc hm) (test_imp (chain_imp hr hr'))
/-! ## truths -/
def mAnd (ma mb : EnvD → Res D) : EnvD → Res D := fun ρ => (ma ρ).bind fun a => (asB a).bind fun k => if k = true then mb ρ else .ok (.bl false)
def mOr (ma mb : EnvD → Res D) : EnvD → Res D := fun ρ => (ma ρ).bind fun a => (asB a).bind fun k => if k = true then .ok (.bl true) else mb ρ
def mNot (ma : EnvD → Res D) : EnvD → Res D := fun ρ => (ma ρ).bind fun a => (asB a).bind fun k => .ok (.bl (!k))
def mIf (mt : EnvD → Res Bool) (ma mb : EnvD → Res D) : EnvD → Res D := fun ρ => (mt ρ).bind fun k => if k = true then ma ρ else mb ρ
variable {rest : List Expr}
theorem d_and1 {op : BoolOp} (ha : PE X a (tD (dc X T E) ma)) : PE X (.BoolOp op [a] pos) (tD (dc X T E) ma) := pe_one ha
theorem d_and (ha : PE X a (tD (dc X T E) ma)) (hb : PE X (.BoolOp .And (b :: rest) pos) (tD (dc X T E) mb)) : PE X (.BoolOp .And (a :: b :: rest) pos) (tD (dc X T E) (mAnd ma mb)) := pe_imp (pe_and ha hb) fun σ H Q ⟨M, ρ, st, q⟩ => by
  refine ⟨M, ρ, st, (aft.bind (Rel := RD X.K) q).imp fun x H1 ⟨a, _, e1, ra, h1⟩ => ?_⟩
  cases a with
  | bl k =>
    simp only [RD] at ra
    refine ⟨k, ra, ?_⟩
    cases k with
    | true => exact ⟨M, ρ, st.ext e1, h1⟩
    | false => exact h1 _ H1 (.refl e1.tab) (by simp only [RD])
  | _ => exact h1.elim
theorem d_or (ha : PE X a (tD (dc X T E) ma)) (hb : PE X (.BoolOp .Or (b :: rest) pos) (tD (dc X T E) mb)) : PE X (.BoolOp .Or (a :: b :: rest) pos) (tD (dc X T E) (mOr ma mb)) := pe_imp (pe_or ha hb) fun σ H Q ⟨M, ρ, st, q⟩ => by
  refine ⟨M, ρ, st, (aft.bind (Rel := RD X.K) q).imp fun x H1 ⟨a, _, e1, ra, h1⟩ => ?_⟩
  cases a with
  | bl k =>
    simp only [RD] at ra
    refine ⟨k, ra, ?_⟩
    cases k with
    | true => exact h1 _ H1 (.refl e1.tab) (by simp only [RD])
    | false => exact ⟨M, ρ, st.ext e1, h1⟩
  | _ => exact h1.elim
theorem d_not (ha : PE X a (tD (dc X T E) ma)) : PE X (.UnaryOp .Not a pos) (tD (dc X T E) (mNot ma)) := pe_imp (pe_not ha) fun σ H Q ⟨M, ρ, st, q⟩ => by
  refine ⟨M, ρ, st, (aft.bind (Rel := RD X.K) q).imp fun x H1 ⟨a, _, e1, ra, h1⟩ => ?_⟩
  cases a with
  | bl k =>
    simp only [RD] at ra
    exact ⟨k, ra, h1 _ H1 (.refl e1.tab) (by simp only [RD])⟩
  | _ => exact h1.elim
theorem d_if {c : Expr} {mt : EnvD → Res Bool} (hc : PT X c (tTD (dc X T E) mt)) (ha : PE X a (tD (dc X T E) ma)) (hb : PE X b (tD (dc X T E) mb)) : PE X (.IfExp c a b pos) (tD (dc X T E) (mIf mt ma mb)) := pe_imp (pe_ifExp hc ha hb) fun σ H Q ⟨M, ρ, st, q⟩ => by
  refine ⟨M, ρ, st, (aft.bind (Rel := relB) q).imp fun k H1 ⟨k', _, e1, ra, h1⟩ => ?_⟩
  have e : k = k' := ra
  subst e
  cases k with
  | true => exact ⟨M, ρ, st.ext e1, h1⟩
  | false => exact ⟨M, ρ, st.ext e1, h1⟩
/-! tests -/
def bAnd (ma mb : EnvD → Res Bool) : EnvD → Res Bool := fun ρ => (ma ρ).bind fun k => if k = true then mb ρ else .ok false
def bOr (ma mb : EnvD → Res Bool) : EnvD → Res Bool := fun ρ => (ma ρ).bind fun k => if k = true then .ok true else mb ρ
def bNot (ma : EnvD → Res Bool) : EnvD → Res Bool := fun ρ => (ma ρ).bind fun k => .ok (!k)
variable {ka kb : EnvD → Res Bool}
theorem t_and1 (ha : PT X a (tTD (dc X T E) ka)) : PW X (.BoolOp .And [a] pos) (tTD (dc X T E) ka) := pw_and1 ha
theorem t_or1 (ha : PT X a (tTD (dc X T E) ka)) : PW X (.BoolOp .Or [a] pos) (tTD (dc X T E) ka) := pw_or1 ha
theorem t_and (ha : PT X a (tTD (dc X T E) ka)) (hb : PW X (.BoolOp .And (b :: rest) pos) (tTD (dc X T E) kb)) : PW X (.BoolOp .And (a :: b :: rest) pos) (tTD (dc X T E) (bAnd ka kb)) := pw_imp (pw_and ha hb) fun σ H Q ⟨M, ρ, st, q⟩ => by
  refine ⟨M, ρ, st, (aft.bind (Rel := relB) q).imp fun k H1 ⟨k', _, e1, ra, h1⟩ => ?_⟩
  have e : k = k' := ra
  subst e
  cases k with
  | true => exact ⟨M, ρ, st.ext e1, h1⟩
  | false => exact h1 _ H1 (.refl e1.tab) rfl
theorem t_or (ha : PT X a (tTD (dc X T E) ka)) (hb : PW X (.BoolOp .Or (b :: rest) pos) (tTD (dc X T E) kb)) : PW X (.BoolOp .Or (a :: b :: rest) pos) (tTD (dc X T E) (bOr ka kb)) := pw_imp (pw_or ha hb) fun σ H Q ⟨M, ρ, st, q⟩ => by
  refine ⟨M, ρ, st, (aft.bind (Rel := relB) q).imp fun k H1 ⟨k', _, e1, ra, h1⟩ => ?_⟩
  have e : k = k' := ra
  subst e
  cases k with
  | true => exact h1 _ H1 (.refl e1.tab) rfl
  | false => exact ⟨M, ρ, st.ext e1, h1⟩
theorem t_not (ha : PT X a (tTD (dc X T E) ka)) : PT X (.UnaryOp .Not a pos) (tTD (dc X T E) (bNot ka)) := pt_imp (pt_not ha) fun σ H Q ⟨M, ρ, st, q⟩ => by
  refine ⟨M, ρ, st, (aft.bind (Rel := relB) q).imp fun k H1 ⟨k', _, e1, ra, h1⟩ => ?_⟩
  have e : k = k' := ra
  subst e
  exact h1 _ H1 (.refl e1.tab) rfl
end

/-! ## the operators -/
instance (i j : Int) : Decidable (CMul i j) := by unfold CMul; exact inferInstance
instance (i j : Int) : Decidable (CMulW i j) := by unfold CMulW; exact inferInstance
def cmulB (i j : Int) : Bool := decide (CMul i j) || decide (CMulW i j)
end DL
namespace DL
open PySem PySem.Spec PyProof.Rows L2 LamX
/-! ## the operators on data -/
theorem okS_app {a b : List Nat} (ha : OkS a) (hb : OkS b) (h : a.length + b.length ≤ LIM) : OkS (a ++ b) :=
  ⟨by rw [List.length_append]; exact lim_le h, fun c hc => (List.mem_append.mp hc).elim (ha.2 c) (hb.2 c)⟩
theorem okS_sub {a b : List Nat} (ha : OkS a) (hl : b.length ≤ a.length) (h : ∀ c ∈ b, c ∈ a) : OkS b := ⟨Nat.le_trans hl ha.1, fun c hc => ha.2 c (h c hc)⟩
theorem str_app (a b : List Nat) : (⟨a.toArray⟩ : Str) ++ ⟨b.toArray⟩ = ⟨(a ++ b).toArray⟩ := by
  show Str.append _ _ = _
  unfold Str.append
  simp
theorem str_len (a : List Nat) : (⟨a.toArray⟩ : Str).length = a.length := by
  show a.toArray.size = _
  simp
def addD : D → D → Res D
  | .int i, .int j => .ok (.int (i + j))
  | .str a, .str b => if a.length + b.length ≤ LIM then .ok (.str (a ++ b)) else .stk
  | .lst a, .lst b => if a.length + b.length ≤ LIM then .ok (.lst (a ++ b)) else .stk
  | .tup a, .tup b => if a.length + b.length ≤ LIM then .ok (.tup (a ++ b)) else .stk
  | _, _ => .stk
def subD : D → D → Res D
  | .int i, .int j => .ok (.int (i - j))
  | _, _ => .stk
def repS (n : Int) (s : List Nat) : List Nat := (List.replicate n.toNat s).flatten
def mulD : D → D → Res D
  | .int i, .int j => if cmulB i j = true then .ok (.int (i * j)) else .stk
  | .str s, .int n => if -LIM ≤ n ∧ n ≤ LIM ∧ s.length * n.toNat ≤ LIM then .ok (.str (repS n s)) else .stk
  | .lst s, .int n => if -LIM ≤ n ∧ n ≤ LIM ∧ s.length * n.toNat ≤ LIM then .ok (.lst (List.replicate n.toNat s).flatten) else .stk
  | _, _ => .stk
def modD : D → D → Res D
  | .int i, .int j => if 0 < j then .ok (.int (i % j)) else .stk
  | _, _ => .stk
def fdivD : D → D → Res D
  | .int i, .int j => if 0 < j ∧ j.natAbs.log2 < 9000 then .ok (.int (i / j)) else .stk
  | _, _ => .stk
def powD : D → D → Res D
  | .int i, .int j => if 0 ≤ j ∧ j ≤ 1000000 ∧ i.natAbs < 2 ^ 64 then .ok (.int (i ^ j.toNat)) else .stk
  | _, _ => .stk
def eqD (a b : D) : Res D := if a.rk ≤ 60 ∧ b.rk ≤ 60 then .ok (.bl (D.eqv a b)) else .stk
def neD (a b : D) : Res D := if a.rk ≤ 60 ∧ b.rk ≤ 60 then .ok (.bl (!D.eqv a b)) else .stk
def ltD : D → D → Res D
  | .int i, .int j => .ok (.bl (decide (i < j)))
  | .str a, .str b => .ok (.bl (decide (a < b)))
  | .tup [.int i, .int j], .tup [.int k, .int l] => .ok (.bl (HT.lexLt [i, j] [k, l]))
  | _, _ => .stk
def leD : D → D → Res D
  | .int i, .int j => .ok (.bl (decide (i ≤ j)))
  | .str a, .str b => .ok (.bl (!decide (b < a)))
  | _, _ => .stk
def gtD : D → D → Res D
  | .int i, .int j => .ok (.bl (decide (j < i)))
  | .str a, .str b => .ok (.bl (decide (b < a)))
  | _, _ => .stk
def geD : D → D → Res D
  | .int i, .int j => .ok (.bl (decide (j ≤ i)))
  | .str a, .str b => .ok (.bl (!decide (a < b)))
  | _, _ => .stk
def isFlat : D → Bool
  | .non => true | .bl _ => true | .int _ => true | .str _ => true | _ => false
def memD (x : D) (ds : List D) : Bool := ds.any fun z => D.eqv z x
def inD : D → D → Res D
  | .str [c], .str z => .ok (.bl (decide (c ∈ z)))
  | x, .lst ds => if x.rk ≤ 60 ∧ (D.lst ds).rk ≤ 60 then .ok (.bl (memD x ds)) else .stk
  | x, .tup ds => if isFlat x = true ∧ ds.all isFlat = true then .ok (.bl (memD x ds)) else .stk
  | _, _ => .stk
def notD : D → Res D
  | .bl b => .ok (.bl (!b))
  | _ => .stk
def notInD (x y : D) : Res D := (inD x y).bind notD
def isD : D → D → Res D
  | .non, .non => .ok (.bl true)
  | .ref _, .non => .stk
  | _, .non => .ok (.bl false)
  | _, _ => .stk
def isNotD (x y : D) : Res D := (isD x y).bind notD

section
variable {X : Cx} {T : List (Addr × Str)} {E : XK} {C : DC} {pins : List (Addr × Obj)}
theorem aft_here {M : List Addr} {H : Hp} {d : D} {v : V} {Q : VK} (h : aft C M H (RD C.K) (.ok d) Q) (tb : Tabs C.T H) (r : RD C.K (hide M H) v d) : Q v H := h v H (.refl tb) r
theorem aft_int {M : List Addr} {H : Hp} {i : Int} {Q : VK} (h : aft C M H (RD C.K) (.ok (.int i)) Q) (tb : Tabs C.T H) : Q (.int i) H := aft_here h tb (by simp only [RD])
theorem aft_bl {M : List Addr} {H : Hp} {i : Bool} {Q : VK} (h : aft C M H (RD C.K) (.ok (.bl i)) Q) (tb : Tabs C.T H) : Q (.bl i) H := aft_here h tb (by simp only [RD])
theorem aft_str {M : List Addr} {H : Hp} {s : List Nat} {Q : VK} (h : aft C M H (RD C.K) (.ok (.str s)) Q) (tb : Tabs C.T H) (o : OkS s) : Q (.str ⟨s.toArray⟩) H := aft_here h tb (by simp only [RD]; exact ⟨trivial, o⟩)
theorem aft_non {M : List Addr} {H : Hp} {Q : VK} (h : aft C M H (RD C.K) (.ok .non) Q) (tb : Tabs C.T H) : Q .non H := aft_here h tb (by simp only [RD])
theorem aft_lst {M : List Addr} {H : Hp} {ds : List D} {vs : List V} {p : Addr} {Q : VK} (h : aft C M H (RD C.K) (.ok (.lst ds)) Q) (tb : Tabs C.T H) (hid : HidOk M H) (n : H p = none) (z : vs.length ≤ sizeLine) (r : RDs C.K (hide M H) vs ds) : Q (.ref p) (upd H p (.lst vs)) :=
  h _ _ (.new tb n) (rd_lst_new hid n z r)
theorem aft_tup {M : List Addr} {H : Hp} {ds : List D} {vs : List V} {p : Addr} {Q : VK} (h : aft C M H (RD C.K) (.ok (.tup ds)) Q) (tb : Tabs C.T H) (hid : HidOk M H) (n : H p = none) (z : vs.length ≤ sizeLine) (r : RDs C.K (hide M H) vs ds) : Q (.ref p) (upd H p (.tup vs)) :=
  h _ _ (.new tb n) (rd_tup_new hid n z r)
/-- what is read of a visible heap is read of the whole -/
theorem vis_sqT {K : PySem.W.Frag} {M : List Addr} {H : Hp} {a : Addr} {vs : List V} (h : TpAt K (hide M H) a vs) : SqT K H a vs := (ext_tpAt (hide_le M H) h).sq
theorem vis_sqL {K : PySem.W.Frag} {M : List Addr} {H : Hp} {a : Addr} {vs : List V} (h : SqL K (hide M H) a vs) : SqL K H a vs := ext_sqL (hide_le M H) h
theorem vis_get {M : List Addr} {H : Hp} {a : Addr} {o : HO} (h : hide M H a = some o) : H a = some o := (hide_some h).1

theorem aft_if {α β : Type} {M : List Addr} {H : Hp} {Rel : Hp → β → α → Prop} {c : Prop} [Decidable c] {r : Res α} {Q : β → Hp → Prop} (h : aft C M H Rel (if c then r else .stk) Q) : c ∧ aft C M H Rel r Q := by
  by_cases hc : c
  · rw [if_pos hc] at h; exact ⟨hc, h⟩
  · rw [if_neg hc] at h; exact h.elim
abbrev rAddAll (K : PySem.W.Frag) : R2 := fun x y H Q => rI0 (fun i j => .int (i + j)) x y H Q ∨ (∃ i j, x = .str i ∧ y = .str j ∧ i.length + j.length ≤ sizeLine ∧ Q (.str (i ++ j)) H) ∨ rCat x y H Q ∨ rCatA K x y H Q
theorem op_addAll : OpR X (binaryOp .Add) (rAddAll X.K) := op_add.or (op_add_str.or (op_cat.or op_catA))
theorem a_add : R2D C (rAddAll C.K) addD := by
  intro M H x y a b Q tb hid ra rb h
  cases a with
  | int i =>
    cases b with
    | int j =>
      simp only [RD] at ra rb
      exact .inl ⟨i, j, ra, rb, aft_int h tb⟩
    | _ => exact h.elim
  | str s =>
    cases b with
    | str z =>
      simp only [RD] at ra rb
      obtain ⟨hl, h⟩ := aft_if h
      refine .inr (.inl ⟨_, _, ra.1, rb.1, ?_, ?_⟩)
      · rw [str_len, str_len]; exact lim_le hl
      · rw [str_app]; exact aft_str h tb (okS_app ra.2 rb.2 hl)
    | _ => exact h.elim
  | lst xs =>
    cases b with
    | lst ys =>
      simp only [RD] at ra rb
      obtain ⟨p, vs, rfl, hp, hz, hr⟩ := ra
      obtain ⟨q, us, rfl, hq, hz2, hr2⟩ := rb
      obtain ⟨hl, h⟩ := aft_if h
      · have hl' : vs.length + us.length ≤ sizeLine := by rw [hr.len, hr2.len]; exact lim_le hl
        exact .inr (.inr (.inl ⟨p, q, vs, us, rfl, rfl, vis_get hp, vis_get hq, hl', fun l n => aft_lst h tb hid n (by rw [List.length_append]; exact hl') (hr.append hr2)⟩))
    | _ => exact h.elim
  | tup xs =>
    cases b with
    | tup ys =>
      have ra' := ra
      have rb' := rb
      simp only [RD] at ra rb
      obtain ⟨p, vs, rfl, hp, hz, hr⟩ := ra
      obtain ⟨q, us, rfl, hq, hz2, hr2⟩ := rb
      obtain ⟨hl, h⟩ := aft_if h
      · have hl' : vs.length + us.length ≤ sizeLine := by rw [hr.len, hr2.len]; exact lim_le hl
        refine .inr (.inr (.inr ⟨p, q, vs, us, rfl, rfl, vis_sqT hp, vis_sqT hq, hl', fun e => ?_, fun _ e => ?_, fun _ _ l n => aft_tup h tb hid n (by rw [List.length_append]; exact hl') (hr.append hr2)⟩))
        · have e2 : xs = [] := List.eq_nil_of_length_eq_zero (by rw [← hr.len, e]; rfl)
          subst e2
          exact aft_here h tb rb'
        · have e2 : ys = [] := List.eq_nil_of_length_eq_zero (by rw [← hr2.len, e]; rfl)
          subst e2
          rw [List.append_nil] at h
          exact aft_here h tb ra'
    | _ => exact h.elim
  | _ => cases b <;> exact h.elim
theorem a_sub : R2D C (rI0 fun i j => .int (i - j)) subD := by
  intro M H x y a b Q tb hid ra rb h
  cases a with
  | int i =>
    cases b with
    | int j =>
      simp only [RD] at ra rb
      exact ⟨i, j, ra, rb, aft_int h tb⟩
    | _ => exact h.elim
  | _ => cases b <;> exact h.elim
theorem a_mod : R2D C (rI (fun _ j => 0 < j) fun i j => .int (i % j)) modD := by
  intro M H x y a b Q tb hid ra rb h
  cases a with
  | int i =>
    cases b with
    | int j =>
      simp only [RD] at ra rb
      obtain ⟨hj, h⟩ := aft_if h
      exact ⟨i, j, ra, rb, hj, aft_int h tb⟩
    | _ => exact h.elim
  | _ => cases b <;> exact h.elim
theorem a_fdiv : R2D C (rI CDivW fun i j => .int (i / j)) fdivD := by
  intro M H x y a b Q tb hid ra rb h
  cases a with
  | int i =>
    cases b with
    | int j =>
      simp only [RD] at ra rb
      obtain ⟨hj, h⟩ := aft_if h
      exact ⟨i, j, ra, rb, hj, aft_int h tb⟩
    | _ => exact h.elim
  | _ => cases b <;> exact h.elim
theorem a_pow : R2D C (rI CPow fun i j => .int (i ^ j.toNat)) powD := by
  intro M H x y a b Q tb hid ra rb h
  cases a with
  | int i =>
    cases b with
    | int j =>
      simp only [RD] at ra rb
      obtain ⟨hj, h⟩ := aft_if h
      exact ⟨i, j, ra, rb, hj, aft_int h tb⟩
    | _ => exact h.elim
  | _ => cases b <;> exact h.elim
/-- a text so many times -/
theorem rep_cps (n : Nat) (s : List Nat) : (List.replicate n s.toArray).foldl (· ++ ·) #[] = (List.replicate n s).flatten.toArray := by
  have h : ∀ (n : Nat) (acc : Array Nat), (List.replicate n s.toArray).foldl (· ++ ·) acc = acc ++ (List.replicate n s).flatten.toArray := by
    intro n
    induction n with
    | zero => intro acc; simp
    | succ n ih =>
      intro acc
      rw [List.replicate_succ, List.foldl_cons, ih, List.replicate_succ, List.flatten_cons]
      simp
  rw [h]; simp
theorem rep_len {α : Type} (n : Nat) (s : List α) : (List.replicate n s).flatten.length = s.length * n := by
  induction n with
  | zero => simp
  | succ n ih => rw [List.replicate_succ, List.flatten_cons, List.length_append, ih, Nat.mul_succ, Nat.add_comm]
abbrev rRepS : R2 := fun x y H Q => ∃ (s : List Nat) (n : Int), x = .str ⟨s.toArray⟩ ∧ y = .int n ∧ -LIM ≤ n ∧ n ≤ LIM ∧ s.length * n.toNat ≤ LIM ∧ Q (.str ⟨(repS n s).toArray⟩) H
theorem op_repS : OpR X (binaryOp .Mult) rRepS := by
  intro pins s σ H x y v u Q I rx ry h
  obtain ⟨z, n, rfl, rfl, h1, h2, h3, q⟩ := h
  obtain ⟨t, rfl⟩ := rx
  obtain ⟨t', rfl⟩ := ry
  unfold LIM at h1 h2 h3
  have hlen : (⟨z.toArray⟩ : Str).length = z.length := str_len z
  refine P.mul_str ?_ (fun a b => ?_) (fun a b => ?_) ?_
  · have a1 : ¬ n < -(2 ^ 63 : Int) := by omega
    have a2 : ¬ n ≥ 2 ^ 63 := by omega
    rw [decide_eq_false a1, decide_eq_false a2]; rfl
  · rw [hlen]
    have hp : 0 < n := by omega
    have hm : (z.length : Int) * n ≤ 1000000 := by
      have e : ((n.toNat : Nat) : Int) = n := Int.toNat_of_nonneg (by omega)
      have := Int.ofNat_le.mpr h3
      rw [Int.natCast_mul, e] at this
      exact this
    have : (z.length : Int) ≤ (2 ^ 63 - 1) / n := (Int.le_ediv_iff_mul_le hp).mpr (by omega)
    omega
  · rw [hlen]
    show decide (z.length * n.toNat > sizeLine) = false
    rw [sizeLine_eq]
    exact decide_eq_false (by omega)
  · by_cases c1 : n < 1
    · rw [if_pos c1]
      have e : repS n z = [] := by
        unfold repS
        have : n.toNat = 0 := by omega
        rw [this]; rfl
      rw [e] at q
      exact ⟨by decide, .str Str.empty, H, I.tok _, ⟨_, rfl⟩, q⟩
    · rw [if_neg c1]
      split
      · rename_i c2
        have e : repS n z = z := by
          unfold repS
          rcases Bool.or_eq_true_iff.mp c2 with c3 | c3
          · have : n = 1 := by simpa using c3
            subst this
            show (List.replicate 1 z).flatten = z
            simp
          · have : z = [] := by
              have c4 : (⟨z.toArray⟩ : Str).length = 0 := by simpa using c3
              rw [hlen] at c4
              exact List.eq_nil_of_length_eq_zero c4
            subst this
            simp
        rw [e] at q
        exact ⟨.str _, H, I.tok _, ⟨_, rfl⟩, q⟩
      · refine ⟨?_, .str _, H, I.tok _, ⟨_, rfl⟩, ?_⟩
        · rw [rep_cps, str_len]
          exact lim_le (Nat.le_trans (Nat.le_of_eq (rep_len _ _)) h3)
        · rw [rep_cps]; exact q
abbrev rMulAll : R2 := fun x y H Q => rI CMul (fun i j => .int (i * j)) x y H Q ∨ rI CMulW (fun i j => .int (i * j)) x y H Q ∨ rRepS x y H Q ∨ rRep x y H Q
theorem op_mulAll : OpR X (binaryOp .Mult) rMulAll := op_mul.or (op_mulW.or (op_repS.or op_rep))
theorem RDs.rep {K : PySem.W.Frag} {H : Hp} {vs : List V} {ds : List D} (h : RDs K H vs ds) : ∀ n : Nat, RDs K H (List.replicate n vs).flatten (List.replicate n ds).flatten
  | 0 => by simpa using RDs.nil
  | n + 1 => by
    rw [List.replicate_succ, List.replicate_succ, List.flatten_cons, List.flatten_cons]
    exact h.append (RDs.rep h n)
theorem a_mul : R2D C rMulAll mulD := by
  intro M H x y a b Q tb hid ra rb h
  cases a with
  | int i =>
    cases b with
    | int j =>
      simp only [RD] at ra rb
      obtain ⟨hj, h⟩ := aft_if h
      rcases Bool.or_eq_true_iff.mp hj with q | q
      · exact .inl ⟨i, j, ra, rb, of_decide_eq_true q, aft_int h tb⟩
      · exact .inr (.inl ⟨i, j, ra, rb, of_decide_eq_true q, aft_int h tb⟩)
    | _ => exact h.elim
  | str s =>
    cases b with
    | int j =>
      simp only [RD] at ra rb
      obtain ⟨⟨h1, h2, h3⟩, h⟩ := aft_if h
      refine .inr (.inr (.inl ⟨s, j, ra.1, rb, h1, h2, h3, aft_str h tb ⟨?_, fun c hc => ?_⟩⟩))
      · exact lim_le (Nat.le_trans (Nat.le_of_eq (rep_len _ _)) h3)
      · unfold repS at hc
        obtain ⟨l, hl, hc⟩ := List.mem_flatten.mp hc
        rw [List.eq_of_mem_replicate hl] at hc
        exact ra.2.2 c hc
    | _ => exact h.elim
  | lst s =>
    cases b with
    | int j =>
      simp only [RD] at ra rb
      obtain ⟨p, vs, rfl, hp, hz, hr⟩ := ra
      obtain ⟨⟨h1, h2, h3⟩, h⟩ := aft_if h
      unfold LIM at h1 h2
      have e : vs.length * j.toNat ≤ LIM := by rw [hr.len]; exact h3
      refine .inr (.inr (.inr ⟨p, j, vs, rfl, rb, vis_get hp, by omega, by omega, lim_le e, fun l n => aft_lst h tb hid n ?_ (hr.rep _)⟩))
      exact lim_le (Nat.le_trans (Nat.le_of_eq (rep_len _ _)) e)
    | _ => exact h.elim
  | _ => cases b <;> exact h.elim
/-! comparisons -/
theorem a_eq : R2D C (rEqD C.K) eqD := by
  intro M H x y a b Q tb hid ra rb h
  obtain ⟨⟨h1, h2⟩, h⟩ := aft_if h
  obtain ⟨p1, s1⟩ := (ra.ext (hide_le M H)).shaped h1
  obtain ⟨p2, s2⟩ := (rb.ext (hide_le M H)).shaped h2
  exact ⟨_, _, p1, p2, s1, s2, aft_bl h tb⟩
theorem a_ne : R2D C (rNeD C.K) neD := by
  intro M H x y a b Q tb hid ra rb h
  obtain ⟨⟨h1, h2⟩, h⟩ := aft_if h
  obtain ⟨p1, s1⟩ := (ra.ext (hide_le M H)).shaped h1
  obtain ⟨p2, s2⟩ := (rb.ext (hide_le M H)).shaped h2
  exact ⟨_, _, p1, p2, s1, s2, aft_bl h tb⟩
abbrev rLtAll (K : PySem.W.Frag) : R2 := fun x y H Q => rI0 (fun i j => .bl (decide (i < j))) x y H Q ∨ (∃ i j, x = .str i ∧ y = .str j ∧ Q (.bl (decide (i.cps.toList < j.cps.toList))) H) ∨ rLtT K x y H Q
theorem op_ltAll (hu : X.A.units < cLine) : OpR X (compareOp .Lt) (rLtAll X.K) := op_lt.or (op_lt_str.or (op_ltT hu))
theorem rds_ints {K : PySem.W.Frag} {H : Hp} {vs : List V} {ns : List Int} (h : RDs K H vs (ns.map D.int)) : vs = ns.map V.int := by
  induction ns generalizing vs with
  | nil => simpa only [List.map_nil, RDs] using h
  | cons n ns ih =>
    simp only [List.map_cons, RDs, RD] at h ⊢
    obtain ⟨v, r, rfl, rfl, h3⟩ := h
    rw [ih h3]
theorem a_lt : R2D C (rLtAll C.K) ltD := by
  intro M H x y a b Q tb hid ra rb h
  cases a with
  | int i =>
    cases b with
    | int j =>
      simp only [RD] at ra rb
      exact .inl ⟨i, j, ra, rb, aft_bl h tb⟩
    | _ => exact h.elim
  | str s =>
    cases b with
    | str z =>
      simp only [RD] at ra rb
      refine .inr (.inl ⟨_, _, ra.1, rb.1, ?_⟩)
      have := aft_bl (i := decide (s < z)) h tb
      simpa using this
    | _ => exact h.elim
  | tup xs =>
    unfold ltD at h
    split at h
    · rename_i e; cases e
    · rename_i e; cases e
    · rename_i i j k l e
      cases e
      simp only [RD] at ra rb
      obtain ⟨p, vs, rfl, hp, hz, hr⟩ := ra
      obtain ⟨q, us, rfl, hq, hz2, hr2⟩ := rb
      have e1 : vs = [i, j].map V.int := rds_ints hr
      have e2 : us = [k, l].map V.int := rds_ints hr2
      rw [e1] at hp
      rw [e2] at hq
      exact .inr (.inr ⟨p, q, [i, j], [k, l], rfl, rfl, vis_sqT hp, vis_sqT hq, aft_bl h tb⟩)
    · exact h.elim
  | _ => cases b <;> exact h.elim
abbrev rLeAll : R2 := fun x y H Q => rI0 (fun i j => .bl (decide (i ≤ j))) x y H Q ∨ (∃ i j, x = .str i ∧ y = .str j ∧ Q (.bl (!decide (j.cps.toList < i.cps.toList))) H)
theorem op_leAll : OpR X (compareOp .LtE) rLeAll := op_le.or op_le_str
theorem a_le : R2D C rLeAll leD := by
  intro M H x y a b Q tb hid ra rb h
  cases a with
  | int i =>
    cases b with
    | int j =>
      simp only [RD] at ra rb
      exact .inl ⟨i, j, ra, rb, aft_bl h tb⟩
    | _ => exact h.elim
  | str s =>
    cases b with
    | str z =>
      simp only [RD] at ra rb
      refine .inr ⟨_, _, ra.1, rb.1, ?_⟩
      have := aft_bl (i := !decide (z < s)) h tb
      simpa using this
    | _ => exact h.elim
  | _ => cases b <;> exact h.elim
abbrev rGtAll : R2 := fun x y H Q => rI0 (fun i j => .bl (decide (j < i))) x y H Q ∨ (∃ i j, x = .str i ∧ y = .str j ∧ Q (.bl (decide (j.cps.toList < i.cps.toList))) H)
theorem op_gtAll : OpR X (compareOp .Gt) rGtAll := op_gt.or op_gt_str
theorem a_gt : R2D C rGtAll gtD := by
  intro M H x y a b Q tb hid ra rb h
  cases a with
  | int i =>
    cases b with
    | int j =>
      simp only [RD] at ra rb
      exact .inl ⟨i, j, ra, rb, aft_bl h tb⟩
    | _ => exact h.elim
  | str s =>
    cases b with
    | str z =>
      simp only [RD] at ra rb
      refine .inr ⟨_, _, ra.1, rb.1, ?_⟩
      have := aft_bl (i := decide (z < s)) h tb
      simpa using this
    | _ => exact h.elim
  | _ => cases b <;> exact h.elim
abbrev rGeAll : R2 := fun x y H Q => rI0 (fun i j => .bl (decide (j ≤ i))) x y H Q ∨ (∃ i j, x = .str i ∧ y = .str j ∧ Q (.bl (!decide (i.cps.toList < j.cps.toList))) H)
theorem op_geAll : OpR X (compareOp .GtE) rGeAll := op_ge.or op_ge_str
theorem a_ge : R2D C rGeAll geD := by
  intro M H x y a b Q tb hid ra rb h
  cases a with
  | int i =>
    cases b with
    | int j =>
      simp only [RD] at ra rb
      exact .inl ⟨i, j, ra, rb, aft_bl h tb⟩
    | _ => exact h.elim
  | str s =>
    cases b with
    | str z =>
      simp only [RD] at ra rb
      refine .inr ⟨_, _, ra.1, rb.1, ?_⟩
      have := aft_bl (i := !decide (s < z)) h tb
      simpa using this
    | _ => exact h.elim
  | _ => cases b <;> exact h.elim
/-! in -/
abbrev rInAll (K : PySem.W.Frag) : R2 := fun x y H Q => (∃ (c : Nat) (z : Str), x = .str ⟨#[c]⟩ ∧ y = .str z ∧ Q (.bl (decide (c ∈ z.cps.toList))) H) ∨ rInD K x y H Q ∨ rIn K false x y H Q
theorem op_inAll (hu : X.A.units + 65 < cLine) : OpR X (compareOp .In) (rInAll X.K) := op_in_sign.or ((op_inD hu).or op_in_seq)
abbrev rNotInAll (K : PySem.W.Frag) : R2 := fun x y H Q => (∃ (c : Nat) (z : Str), x = .str ⟨#[c]⟩ ∧ y = .str z ∧ Q (.bl (!decide (c ∈ z.cps.toList))) H) ∨ rNotInD K x y H Q ∨ rIn K true x y H Q
theorem op_notInAll (hu : X.A.units + 65 < cLine) : OpR X (compareOp .NotIn) (rNotInAll X.K) := op_notIn_sign.or ((op_notInD hu).or op_notIn_seq)
theorem any_py (d : D) : ∀ ds : List D, ((toPys ds).any fun z => PyData.eqv z d.toPy) = memD d ds
  | [] => rfl
  | e :: ds => by
    show (PyData.eqv e.toPy d.toPy || (toPys ds).any fun z => PyData.eqv z d.toPy) = _
    rw [any_py d ds]; rfl
theorem flat_rd {K : PySem.W.Frag} {H : Hp} {v : V} {d : D} (r : RD K H v d) (h : isFlat d = true) : flatV v = true := by
  cases d with
  | non => simp only [RD] at r; subst r; rfl
  | bl b => simp only [RD] at r; subst r; rfl
  | int i => simp only [RD] at r; subst r; rfl
  | str s => simp only [RD] at r; rw [r.1]; rfl
  | _ => cases h
theorem flat_rds {K : PySem.W.Frag} {H : Hp} : ∀ {vs : List V} {ds : List D}, RDs K H vs ds → ds.all isFlat = true → vs.all flatV = true
  | vs, [], r, _ => by simp only [RDs] at r; subst r; rfl
  | vs, d :: ds, r, h => by
    simp only [RDs] at r
    obtain ⟨v, r', rfl, h2, h3⟩ := r
    rw [List.all_cons, Bool.and_eq_true] at h ⊢
    exact ⟨flat_rd h2 h.1, flat_rds h3 h.2⟩
theorem eqV_rd {K : PySem.W.Frag} {H : Hp} {v u : V} {d e : D} (r : RD K H v d) (q : RD K H u e) (h : isFlat d = true) (g : isFlat e = true) : eqV v u = D.eqv d e := by
  cases d with
  | non => cases e with
    | non => simp only [RD] at r q; subst r; subst q; rfl
    | bl b => simp only [RD] at r q; subst r; subst q; rfl
    | int i => simp only [RD] at r q; subst r; subst q; rfl
    | str s => simp only [RD] at r q; rw [r, q.1]; rfl
    | _ => cases g
  | bl b => cases e with
    | non => simp only [RD] at r q; subst r; subst q; rfl
    | bl b => simp only [RD] at r q; subst r; subst q; rfl
    | int i => simp only [RD] at r q; subst r; subst q; rfl
    | str s => simp only [RD] at r q; rw [r, q.1]; rfl
    | _ => cases g
  | int b => cases e with
    | non => simp only [RD] at r q; subst r; subst q; rfl
    | bl b => simp only [RD] at r q; subst r; subst q; rfl
    | int i => simp only [RD] at r q; subst r; subst q; rfl
    | str s => simp only [RD] at r q; rw [r, q.1]; rfl
    | _ => cases g
  | str b => cases e with
    | non => simp only [RD] at r q; rw [r.1, q]; rfl
    | bl b => simp only [RD] at r q; rw [r.1, q]; rfl
    | int i => simp only [RD] at r q; rw [r.1, q]; rfl
    | str s => simp only [RD] at r q; rw [r.1, q.1]; rfl
    | _ => cases g
  | _ => cases h
theorem inV_rd {K : PySem.W.Frag} {H : Hp} {v : V} {d : D} (r : RD K H v d) (h : isFlat d = true) : ∀ {vs : List V} {ds : List D}, RDs K H vs ds → ds.all isFlat = true → inV v vs = memD d ds
  | vs, [], q, _ => by simp only [RDs] at q; subst q; rfl
  | vs, e :: ds, q, g => by
    simp only [RDs] at q
    obtain ⟨u, r', rfl, h2, h3⟩ := q
    rw [List.all_cons, Bool.and_eq_true] at g
    show (eqV u v || inV v r') = (D.eqv e d || memD d ds)
    rw [eqV_rd h2 r g.1 h, inV_rd r h h3 g.2]
theorem a_in : R2D C (rInAll C.K) inD := by
  intro M H x y a b Q tb hid ra rb h
  unfold inD at h
  split at h
  · rename_i c z
    simp only [RD] at ra rb
    refine .inl ⟨c, _, ra.1, rb.1, ?_⟩
    have := aft_bl h tb
    simpa using this
  · rename_i ds _
    obtain ⟨⟨h1, h2⟩, h⟩ := aft_if h
    obtain ⟨p1, s1⟩ := (ra.ext (hide_le M H)).shaped h1
    obtain ⟨p2, s2⟩ := (rb.ext (hide_le M H)).shaped h2
    rw [← any_py] at h
    simp only [D.toPy] at p2 s2
    exact .inr (.inl ⟨_, _, p1, p2, s1, s2, aft_bl h tb⟩)
  · rename_i ds _
    obtain ⟨⟨h1, h2⟩, h⟩ := aft_if h
    have rb2 := rb.ext (hide_le M H)
    have ra2 := ra.ext (hide_le M H)
    simp only [RD] at rb2
    obtain ⟨q, us, rfl, hq, hz2, hr2⟩ := rb2
    refine .inr (.inr ⟨q, us, rfl, .inr hq.sq, flat_rd ra2 h1, flat_rds hr2 h2, ?_⟩)
    show Q (.bl (inV x us)) H
    rw [inV_rd ra2 h1 hr2 h2]
    exact aft_bl h tb
  · exact h.elim
theorem a_notIn : R2D C (rNotInAll C.K) notInD := by
  intro M H x y a b Q tb hid ra rb h
  unfold notInD inD at h
  split at h
  · rename_i c z
    simp only [RD] at ra rb
    refine .inl ⟨c, _, ra.1, rb.1, ?_⟩
    have := aft_bl (i := !decide (c ∈ z)) h tb
    simpa using this
  · rename_i ds
    by_cases hc : a.rk ≤ 60 ∧ (D.lst ds).rk ≤ 60
    · rw [if_pos hc] at h
      obtain ⟨h1, h2⟩ := hc
      obtain ⟨p1, s1⟩ := (ra.ext (hide_le M H)).shaped h1
      obtain ⟨p2, s2⟩ := (rb.ext (hide_le M H)).shaped h2
      have h' : aft C M H (RD C.K) (.ok (.bl (!memD a ds))) Q := h
      rw [← any_py] at h'
      simp only [D.toPy] at p2 s2
      exact .inr (.inl ⟨_, _, p1, p2, s1, s2, aft_bl h' tb⟩)
    · rw [if_neg hc] at h; exact h.elim
  · rename_i ds
    by_cases hc : isFlat a = true ∧ ds.all isFlat = true
    · rw [if_pos hc] at h
      obtain ⟨h1, h2⟩ := hc
      have rb2 := rb.ext (hide_le M H)
      have ra2 := ra.ext (hide_le M H)
      simp only [RD] at rb2
      obtain ⟨q, us, rfl, hq, hz2, hr2⟩ := rb2
      refine .inr (.inr ⟨q, us, rfl, .inr hq.sq, flat_rd ra2 h1, flat_rds hr2 h2, ?_⟩)
      show Q (.bl (!inV x us)) H
      rw [inV_rd ra2 h1 hr2 h2]
      exact aft_bl (i := !memD a ds) h tb
    · rw [if_neg hc] at h; exact h.elim
  · exact h.elim
/-! is None -/
theorem non_rd {K : PySem.W.Frag} {H : Hp} {v : V} {d : D} (r : RD K H v d) (h : ∀ a, d ≠ .ref a) (g : d ≠ .non) : decide (v = .non) = false := by
  refine decide_eq_false fun e => ?_
  subst e
  cases d with
  | non => exact g rfl
  | ref a => exact h a rfl
  | bl b => simp only [RD] at r; cases r
  | int b => simp only [RD] at r; cases r
  | str b => simp only [RD] at r; cases r.1
  | tup b => simp only [RD] at r; obtain ⟨_, _, e, _⟩ := r; cases e
  | lst b => simp only [RD] at r; obtain ⟨_, _, e, _⟩ := r; cases e
  | scr b => simp only [RD] at r; obtain ⟨_, e, _⟩ := r; cases e
  | dct _ _ => simp only [RD] at r; obtain ⟨_, _, e, _⟩ := r; cases e
theorem a_is : R2D C (fun x y H Q => y = .non ∧ Q (.bl (decide (x = .non))) H) isD := by
  intro M H x y a b Q tb hid ra rb h
  unfold isD at h
  split at h
  · simp only [RD] at ra rb
    subst ra
    exact ⟨rb, aft_bl h tb⟩
  · exact h.elim
  · rename_i a' n1 n2
    simp only [RD] at rb
    refine ⟨rb, ?_⟩
    rw [non_rd ra (fun z e => n2 z e) (fun e => n1 e)]
    exact aft_bl h tb
  · exact h.elim
theorem a_isNot : R2D C (fun x y H Q => y = .non ∧ Q (.bl (!decide (x = .non))) H) isNotD := by
  intro M H x y a b Q tb hid ra rb h
  unfold isNotD isD at h
  split at h
  · simp only [RD] at ra rb
    subst ra
    exact ⟨rb, aft_bl (i := false) h tb⟩
  · exact h.elim
  · rename_i a' n1 n2
    simp only [RD] at rb
    refine ⟨rb, ?_⟩
    rw [non_rd ra (fun z e => n2 z e) (fun e => n1 e)]
    exact aft_bl (i := true) h tb
  · exact h.elim
end
end DL
namespace DL
open PySem PySem.Spec PyProof.Rows L2 LamX
/-! ## subscripts -/
def oR {α : Type} (o : Option α) : Res α := match o with
  | some a => .ok a | none => .stk
def ixD : D → D → Res D
  | .tup xs, .int i => oR (atI xs i)
  | .lst xs, .int i => oR (atI xs i)
  | .str s, .int i => (oR (atI s i)).bind fun c => .ok (.str [c])
  | .scr ns, .int i => (oR (atI ns i)).bind fun c => .ok (.int c)
  | _, _ => .stk
def cutL {α : Type} (xs : List α) (lo hi : Option Int) : List α := (xs.drop (HT.sIx xs.length 0 lo)).take (HT.sIx xs.length xs.length hi - HT.sIx xs.length 0 lo)
def slD : D → Option Int → Option Int → Res D
  | .tup xs, lo, hi => .ok (.tup (cutL xs lo hi))
  | .lst xs, lo, hi => .ok (.lst (cutL xs lo hi))
  | .str s, lo, hi => .ok (.str (cutL s lo hi))
  | _, _, _ => .stk
theorem atI_rds {K : PySem.W.Frag} {H : Hp} {vs : List V} {ds : List D} {i : Int} {d : D} (r : RDs K H vs ds) (h : atI ds i = some d) : ∃ v, atI vs i = some v ∧ RD K H v d := by
  unfold atI at h ⊢
  rw [r.len]
  cases e : ixN ds.length i with
  | none => rw [e] at h; cases h
  | some j =>
    rw [e] at h
    exact r.get h
theorem atI_map {α β : Type} {f : α → β} {xs : List α} {i : Int} {x : α} (h : atI xs i = some x) : atI (xs.map f) i = some (f x) := by
  unfold atI at h ⊢
  rw [List.length_map]
  cases e : ixN xs.length i with
  | none => rw [e] at h; cases h
  | some j =>
    rw [e] at h
    have h' : xs[j]? = some x := h
    show (xs.map f)[j]? = some (f x)
    rw [List.getElem?_map, h']; rfl
theorem cutL_len {α : Type} (xs : List α) (lo hi : Option Int) : (cutL xs lo hi).length ≤ xs.length := by
  unfold cutL; rw [List.length_take, List.length_drop]; omega
theorem cutL_mem {α : Type} {xs : List α} {lo hi : Option Int} {x : α} (h : x ∈ cutL xs lo hi) : x ∈ xs := List.mem_of_mem_drop (List.mem_of_mem_take h)
theorem cutL_all {α : Type} (xs : List α) {lo hi : Option Int} (h : HT.sIx xs.length 0 lo = 0 ∧ HT.sIx xs.length xs.length hi = xs.length) : cutL xs lo hi = xs := by
  unfold cutL; rw [h.1, h.2]; simp
theorem RDs.cut {K : PySem.W.Frag} {H : Hp} {vs : List V} {ds : List D} (r : RDs K H vs ds) (lo hi : Option Int) : RDs K H (cutV vs lo hi) (cutL ds lo hi) := by
  unfold cutV cutL; rw [r.len]; exact (r.drop _).take _
section
variable {X : Cx} {T : List (Addr × Str)} {E : XK} {C : DC} {a b c e : Expr} {es : List Expr} {pos p2 : Pos} {ma mb : EnvD → Res D} {mr : EnvD → Res (List D)}
theorem aft_oR {α γ δ : Type} {M : List Addr} {H : Hp} {Rel : Hp → δ → γ → Prop} {o : Option α} {f : α → Res γ} {Q : δ → Hp → Prop} (h : aft C M H Rel ((oR o).bind f) Q) : ∃ x, o = some x ∧ aft C M H Rel (f x) Q := by
  cases o with
  | none => exact h.elim
  | some x => exact ⟨x, rfl, h⟩
theorem aft_oR0 {β : Type} {α : Type} {M : List Addr} {H : Hp} {Rel : Hp → β → α → Prop} {o : Option α} {Q : β → Hp → Prop} (h : aft C M H Rel (oR o) Q) : ∃ x, o = some x ∧ aft C M H Rel (.ok x) Q := by
  cases o with
  | none => exact h.elim
  | some x => exact ⟨x, rfl, h⟩
theorem a_ix : R2D C (rIx C.K) ixD := by
  intro M H x y a b Q tb hid ra rb h
  cases a with
  | tup xs =>
    cases b with
    | int i =>
      simp only [RD] at ra rb
      obtain ⟨p, vs, rfl, hp, hz, hr⟩ := ra
      obtain ⟨d, e, h⟩ := aft_oR0 h
      obtain ⟨v, e2, r⟩ := atI_rds hr e
      exact .inr (.inl ⟨p, vs, i, v, rfl, rb, vis_sqT hp, e2, aft_here h tb r⟩)
    | _ => exact h.elim
  | lst xs =>
    cases b with
    | int i =>
      simp only [RD] at ra rb
      obtain ⟨p, vs, rfl, hp, hz, hr⟩ := ra
      obtain ⟨d, e, h⟩ := aft_oR0 h
      obtain ⟨v, e2, r⟩ := atI_rds hr e
      exact .inl ⟨p, vs, i, v, rfl, rb, .of (vis_get hp), e2, aft_here h tb r⟩
    | _ => exact h.elim
  | str s =>
    cases b with
    | int i =>
      simp only [RD] at ra rb
      obtain ⟨c, e, h⟩ := aft_oR h
      refine .inr (.inr ⟨_, i, c, ra.1, rb, by rw [str_len]; exact ra.2.1, by simpa using e, ?_⟩)
      have hc : c ∈ s := by
        unfold atI at e
        cases e3 : ixN s.length i with
        | none => rw [e3] at e; cases e
        | some j => rw [e3] at e; exact List.mem_of_getElem? e
      exact aft_str h tb ⟨by show 1 ≤ sizeLine; rw [sizeLine_eq]; decide, fun z hz => by rw [List.mem_singleton.mp hz]; exact ra.2.2 c hc⟩
    | _ => exact h.elim
  | scr ns =>
    cases b with
    | int i =>
      simp only [RD] at ra rb
      obtain ⟨p, rfl, hp, hz⟩ := ra
      obtain ⟨n, e, h⟩ := aft_oR h
      exact .inl ⟨p, _, i, _, rfl, rb, vis_sqL hp, atI_map e, aft_int h tb⟩
    | _ => exact h.elim
  | _ => cases b <;> exact h.elim
theorem d_ix (ha : PE X a (tD (dc X T E) ma)) (hb : PE X b (tD (dc X T E) mb)) (hs : PlainIx b) : PE X (.Subscript a b pos) (tD (dc X T E) (m2 ixD ma mb)) := pe_imp (pe_ix ix_seq ha hb hs) (op2_imp a_ix)
/-! slices -/
def oNone : EnvD → Res (Option Int) := fun _ => .ok none
def asI : D → Res Int
  | .int i => .ok i
  | _ => .stk
def oSome (m : EnvD → Res D) : EnvD → Res (Option Int) := fun ρ => (m ρ).bind fun d => (asI d).bind fun i => .ok (some i)
def mSl (m : EnvD → Res D) (lo hi : EnvD → Res (Option Int)) : EnvD → Res D := fun ρ => (m ρ).bind fun d => (lo ρ).bind fun l => (hi ρ).bind fun h => slD d l h
theorem o_none : PO X none (tOD (dc X T E) oNone) := ⟨fun pins s σ H Q I ⟨M, ρ, st, q⟩ => po_none.run pins s σ H Q I (q _ H (.refl st.tab) rfl)⟩
theorem o_some (h : PE X e (tD (dc X T E) ma)) : PO X (some e) (tOD (dc X T E) (oSome ma)) := ⟨fun pins s σ H Q I ⟨M, ρ, st, q⟩ => (po_some h).run pins s σ H Q I (by
  refine ⟨M, ρ, st, (aft.bind (Rel := RD X.K) q).imp fun x H1 ⟨d, _, e1, r1, q1⟩ => ?_⟩
  cases d with
  | int i => simp only [RD] at r1; exact ⟨i, r1, q1 _ H1 (.refl e1.tab) rfl⟩
  | _ => exact q1.elim)⟩
abbrev rSlAll (K : PySem.W.Frag) : V → Option Int → Option Int → Hp → VK → Prop := fun x lo hi H Q => rSlL K x lo hi H Q ∨ (rSlS x lo hi H Q ∨ rSlA K x lo hi H Q)
theorem d_sl {lo hi : Option Expr} {ml mh : EnvD → Res (Option Int)} (he : PE X e (tD (dc X T E) ma)) (hl : PO X lo (tOD (dc X T E) ml)) (hh : PO X hi (tOD (dc X T E) mh)) : PE X (.Subscript e (.Slice lo hi none p2) pos) (tD (dc X T E) (mSl ma ml mh)) :=
  pe_imp (pe_slice (r := rSlAll X.K) (sl_list.or (sl_str.or sl_tupA)) he hl hh) fun σ H Q ⟨M, ρ, st, q⟩ => by
    refine ⟨M, ρ, st, (aft.bind (Rel := RD X.K) q).imp fun x H1 ⟨d, _, e1, r1, q1⟩ => ⟨M, ρ, st.ext e1, (aft.bind (Rel := relO) q1).imp fun l' H2 ⟨l, _, e2, r2, q2⟩ => ⟨M, ρ, (st.ext e1).ext e2, (aft.bind (Rel := relO) q2).imp fun h' H3 ⟨h, _, e3, r3, q3⟩ => ?_⟩⟩⟩
    have e4 : l' = l := r2
    have e5 : h' = h := r3
    subst e4 e5
    have hid := ((st.hid.ext e1.old).ext e2.old).ext e3.old
    have r := r1.ext (hide_mono M (e2.old.trans e3.old))
    cases d with
    | tup xs =>
      have r' := r
      simp only [RD] at r
      obtain ⟨p, vs, rfl, hp, hz, hr⟩ := r
      refine .inr (.inr ⟨p, vs, rfl, vis_sqT hp, fun w => ?_, fun _ l n => aft_tup q3 e3.tab hid n (Nat.le_trans (cutL_len vs _ _) hz) (hr.cut _ _)⟩)
      rw [hr.len] at w
      have q4 : aft (dc X T E) M H3 (RD X.K) (.ok (.tup (cutL xs l' h'))) Q := q3
      rw [cutL_all xs w] at q4
      exact aft_here q4 e3.tab r'
    | lst xs =>
      simp only [RD] at r
      obtain ⟨p, vs, rfl, hp, hz, hr⟩ := r
      exact .inl ⟨p, vs, rfl, .of (vis_get hp), fun l n => aft_lst q3 e3.tab hid n (Nat.le_trans (cutL_len vs _ _) hz) (hr.cut _ _)⟩
    | str s =>
      simp only [RD] at r
      refine .inr (.inl ⟨_, r.1, by rw [str_len]; exact r.2.1, ?_⟩)
      have q4 := aft_str q3 e3.tab (okS_sub r.2 (cutL_len _ _ _) fun c hc => cutL_mem hc)
      unfold cutS
      rw [str_len]
      exact q4
    | _ => exact q3.elim
/-! unary -/
def negD : D → Res D
  | .int i => .ok (.int (-i))
  | _ => .stk
def m1 (f : D → Res D) (ma : EnvD → Res D) : EnvD → Res D := fun ρ => (ma ρ).bind f
theorem d_neg (ha : PE X a (tD (dc X T E) ma)) : PE X (.UnaryOp .USub a pos) (tD (dc X T E) (m1 negD ma)) := pe_imp (pe_un un_neg ha) fun σ H Q ⟨M, ρ, st, q⟩ => by
  refine ⟨M, ρ, st, (aft.bind (Rel := RD X.K) q).imp fun x H1 ⟨d, _, e1, r1, q1⟩ => ?_⟩
  cases d with
  | int i => simp only [RD] at r1; exact ⟨i, r1, aft_int q1 e1.tab⟩
  | _ => exact q1.elim
/-! ## calls of built-ins -/
def R1D (C : DC) (r : List V → Hp → VK → Prop) (f : List D → Res D) : Prop := ∀ M H vs ds Q, Tabs C.T H → HidOk M H → RDs C.K (hide M H) vs ds → aft C M H (RD C.K) (f ds) Q → r vs H Q
def mCall (f : List D → Res D) (r : EnvD → Res (List D)) : EnvD → Res D := fun ρ => (r ρ).bind f
theorem call_imp {r : List V → Hp → VK → Prop} {f : List D → Res D} (hr : R1D (dc X T E) r f) : ∀ σ H Q, tD (dc X T E) (mCall f mr) σ H Q → tCB r (tAD (dc X T E) mr) σ H Q := fun σ H Q ⟨M, ρ, st, q⟩ =>
  ⟨M, ρ, st, (aft.bind (Rel := RDs X.K) q).imp fun vs H1 ⟨ds, _, e1, r1, q1⟩ => hr M H1 vs ds Q e1.tab (st.hid.ext e1.old) r1 q1⟩
theorem d_callB {x : Str} {id : String} {p : Pos} {r : List V → Hp → VK → Prop} {f : List D → Res D} (hc : CallR X (.builtin id) r) (hr : R1D (dc X T E) r f) (hg : Gl X x) (hm : X.mg x = none) (hv : bootBuiltins x = some (.builtin id)) (ha : PA X (e :: es) (tAD (dc X T E) mr)) (hn : x ≠ "__name__" := by decide) (hdb : (x == ("__debug__" : Str)) = false := by decide)
    (he : starEach (e :: es) X.env = (false, eval e X.env) :: starEach es X.env := by rfl) (hpl : (backTo pos (starEach es X.env)).any (·.1) = false := by rfl) : PE X (.Call (.Name x p) (e :: es) [] pos) (tD (dc X T E) (mCall f mr)) := pe_imp (pe_callB hc hg hm hv ha hn hdb he hpl) (call_imp hr)
theorem d_callTy {x : Str} {id : String} {p : Pos} {r : List V → Hp → VK → Prop} {f : List D → Res D} (hc : CallR X (.type id) r) (hr : R1D (dc X T E) r f) (hg : Gl X x) (hm : X.mg x = none) (hv : bootBuiltins x = some (.type id)) (ha : PA X (e :: es) (tAD (dc X T E) mr)) (hn : x ≠ "__name__" := by decide) (hdb : (x == ("__debug__" : Str)) = false := by decide)
    (he : starEach (e :: es) X.env = (false, eval e X.env) :: starEach es X.env := by rfl) (hpl : (backTo pos (starEach es X.env)).any (·.1) = false := by rfl) : PE X (.Call (.Name x p) (e :: es) [] pos) (tD (dc X T E) (mCall f mr)) := pe_imp (pe_callTy hc hg hm hv ha hn hdb he hpl) (call_imp hr)
theorem rds1 {K : PySem.W.Frag} {H : Hp} {vs : List V} {d : D} (h : RDs K H vs [d]) : ∃ v, vs = [v] ∧ RD K H v d := by
  simp only [RDs] at h; obtain ⟨v, r, rfl, h2, rfl⟩ := h; exact ⟨v, rfl, h2⟩
theorem rds2 {K : PySem.W.Frag} {H : Hp} {vs : List V} {d e : D} (h : RDs K H vs [d, e]) : ∃ v u, vs = [v, u] ∧ RD K H v d ∧ RD K H u e := by
  simp only [RDs] at h; obtain ⟨v, r, rfl, h2, u, r', rfl, h3, rfl⟩ := h; exact ⟨v, u, rfl, h2, h3⟩
def lenF : List D → Res D
  | [.str s] => .ok (.int s.length)
  | [.tup s] => .ok (.int s.length)
  | [.lst s] => .ok (.int s.length)
  | [.scr s] => .ok (.int s.length)
  | _ => .stk
theorem a_len : R1D C (fun xs H Q => ∃ x n, xs = [x] ∧ LenV C.K x H n ∧ Q (.int n) H) lenF := by
  intro M H vs ds Q tb hid r h
  unfold lenF at h
  split at h
  · obtain ⟨v, rfl, r1⟩ := rds1 r
    simp only [RD] at r1
    rw [r1.1]
    exact ⟨_, _, rfl, ⟨by rw [str_len]; exact r1.2.1, by rw [str_len]⟩, aft_int h tb⟩
  · obtain ⟨v, rfl, r1⟩ := rds1 r
    simp only [RD] at r1
    obtain ⟨p, vs, rfl, hp, hz, hr⟩ := r1
    exact ⟨_, _, rfl, .inr ⟨vs, vis_sqT hp, hr.len.symm⟩, aft_int h tb⟩
  · obtain ⟨v, rfl, r1⟩ := rds1 r
    simp only [RD] at r1
    obtain ⟨p, vs, rfl, hp, hz, hr⟩ := r1
    exact ⟨_, _, rfl, .inl ⟨vs, .of (vis_get hp), hr.len.symm⟩, aft_int h tb⟩
  · obtain ⟨v, rfl, r1⟩ := rds1 r
    simp only [RD] at r1
    obtain ⟨p, rfl, hp, hz⟩ := r1
    exact ⟨_, _, rfl, .inl ⟨_, vis_sqL hp, by rw [List.length_map]⟩, aft_int h tb⟩
  · exact h.elim
def maxF : List D → Res D
  | [.int i, .int j] => .ok (.int (if j > i then j else i))
  | _ => .stk
def minF : List D → Res D
  | [.int i, .int j] => .ok (.int (if j < i then j else i))
  | _ => .stk
theorem a_max2 : R1D C (fun xs H Q => ∃ i j, xs = [.int i, .int j] ∧ Q (.int (if j > i then j else i)) H) maxF := by
  intro M H vs ds Q tb hid r h
  unfold maxF at h
  split at h
  · obtain ⟨v, u, rfl, r1, r2⟩ := rds2 r
    simp only [RD] at r1 r2
    subst r1 r2
    exact ⟨_, _, rfl, aft_int h tb⟩
  · exact h.elim
theorem a_min2 : R1D C (fun xs H Q => ∃ i j, xs = [.int i, .int j] ∧ Q (.int (if j < i then j else i)) H) minF := by
  intro M H vs ds Q tb hid r h
  unfold minF at h
  split at h
  · obtain ⟨v, u, rfl, r1, r2⟩ := rds2 r
    simp only [RD] at r1 r2
    subst r1 r2
    exact ⟨_, _, rfl, aft_int h tb⟩
  · exact h.elim
def asInts : List D → Option (List Int)
  | [] => some []
  | .int i :: ds => (asInts ds).map (i :: ·)
  | _ => none
def asBls : List D → Option (List Bool)
  | [] => some []
  | .bl i :: ds => (asBls ds).map (i :: ·)
  | _ => none
def asStrs : List D → Option (List (List Nat))
  | [] => some []
  | .str i :: ds => (asStrs ds).map (i :: ·)
  | _ => none
theorem asInts_rds {K : PySem.W.Frag} {H : Hp} : ∀ {ds : List D} {ns : List Int} {vs : List V}, asInts ds = some ns → RDs K H vs ds → vs = ns.map V.int
  | [], ns, vs, h, r => by simp only [RDs] at r; cases h; exact r
  | d :: ds, ns, vs, h, r => by
    cases d with
    | int i =>
      simp only [asInts, Option.map_eq_some_iff] at h
      obtain ⟨ms, h1, rfl⟩ := h
      simp only [RDs, RD] at r
      obtain ⟨v, r', rfl, rfl, h3⟩ := r
      rw [asInts_rds h1 h3]; rfl
    | _ => cases h
theorem asBls_rds {K : PySem.W.Frag} {H : Hp} : ∀ {ds : List D} {ns : List Bool} {vs : List V}, asBls ds = some ns → RDs K H vs ds → vs = ns.map V.bl
  | [], ns, vs, h, r => by simp only [RDs] at r; cases h; exact r
  | d :: ds, ns, vs, h, r => by
    cases d with
    | bl i =>
      simp only [asBls, Option.map_eq_some_iff] at h
      obtain ⟨ms, h1, rfl⟩ := h
      simp only [RDs, RD] at r
      obtain ⟨v, r', rfl, rfl, h3⟩ := r
      rw [asBls_rds h1 h3]; rfl
    | _ => cases h
theorem asStrs_rds {K : PySem.W.Frag} {H : Hp} : ∀ {ds : List D} {ns : List (List Nat)} {vs : List V}, asStrs ds = some ns → RDs K H vs ds → vs = (ns.map fun s => (⟨s.toArray⟩ : Str)).map V.str ∧ ∀ s ∈ ns, OkS s
  | [], ns, vs, h, r => by simp only [RDs] at r; cases h; exact ⟨r, fun s hs => by cases hs⟩
  | d :: ds, ns, vs, h, r => by
    cases d with
    | str i =>
      simp only [asStrs, Option.map_eq_some_iff] at h
      obtain ⟨ms, h1, rfl⟩ := h
      simp only [RDs, RD] at r
      obtain ⟨v, r', rfl, ⟨rfl, ho⟩, h3⟩ := r
      obtain ⟨e, hm⟩ := asStrs_rds h1 h3
      refine ⟨by rw [e]; rfl, fun s hs => ?_⟩
      rcases List.mem_cons.mp hs with rfl | hs
      · exact ho
      · exact hm s hs
    | _ => cases h
def sumF : List D → Res D
  | [.lst ds] => (oR (asInts ds)).bind fun ns => .ok (.int ns.sum)
  | [.tup ds] => (oR (asInts ds)).bind fun ns => .ok (.int ns.sum)
  | _ => .stk
abbrev rSumT (K : PySem.W.Frag) : List V → Hp → VK → Prop := fun vs H Q => ∃ (a : Addr) (ns : List Int), vs = [V.ref a] ∧ SqT K H a (ns.map V.int) ∧ Q (.int ns.sum) H
theorem cr_sumT (hc : X.calm = true) : CallR X (.builtin "sum") (rSumT X.K) := by
  intro pins s σ H vs us Q I r h
  obtain ⟨a, ns, rfl, ht, q⟩ := h
  obtain ⟨u, rfl, ru⟩ := vals1 r
  cases ru
  obtain ⟨its, rv, p, hz⟩ := I.tuple ht
  have hi : IntsAre its ns := intsAre_of rv
  obtain ⟨xs, e⟩ := hi.allInts.items
  have hn : numsOf (intItems xs).toList = ns := by rw [← e]; exact hi.numsOf
  rw [nums_intItems] at hn
  rw [e] at p
  refine PySem.W.ktm_sumG (I.ok.hd hc) (show s.heap.IsTuple a (intItems xs) from p) fun h' tk t' hk => ?_
  refine ⟨.int _, H, I.kept (t' := tk) hk, ⟨_, rfl⟩, ?_⟩
  rw [preSum_eq, List.take_of_length_le (by simp), hn]; exact q
abbrev rSumAll (K : PySem.W.Frag) : List V → Hp → VK → Prop := fun vs H Q => rSum K vs H Q ∨ rSumT K vs H Q
theorem cr_sumAll (hc : X.calm = true) : CallR X (.builtin "sum") (rSumAll X.K) := (cr_sum hc).or (cr_sumT hc)
theorem a_sum : R1D C (rSumAll C.K) sumF := by
  intro M H vs ds Q tb hid r h
  unfold sumF at h
  split at h
  · obtain ⟨v, rfl, r1⟩ := rds1 r
    simp only [RD] at r1
    obtain ⟨p, us, rfl, hp, hz, hr⟩ := r1
    obtain ⟨ns, e, h⟩ := aft_oR h
    rw [asInts_rds e hr] at hp
    exact .inl ⟨p, ns, rfl, .of (vis_get hp), aft_int h tb⟩
  · obtain ⟨v, rfl, r1⟩ := rds1 r
    simp only [RD] at r1
    obtain ⟨p, us, rfl, hp, hz, hr⟩ := r1
    obtain ⟨ns, e, h⟩ := aft_oR h
    rw [asInts_rds e hr] at hp
    exact .inr ⟨p, ns, rfl, vis_sqT hp, aft_int h tb⟩
  · exact h.elim
def allF : List D → Res D
  | [.lst ds] => (oR (asBls ds)).bind fun ns => .ok (.bl (ns.all id))
  | _ => .stk
def anyF : List D → Res D
  | [.lst ds] => (oR (asBls ds)).bind fun ns => .ok (.bl (ns.any id))
  | _ => .stk
theorem a_all : R1D C (rAll C.K) allF := by
  intro M H vs ds Q tb hid r h
  unfold allF at h
  split at h
  · obtain ⟨v, rfl, r1⟩ := rds1 r
    simp only [RD] at r1
    obtain ⟨p, us, rfl, hp, hz, hr⟩ := r1
    obtain ⟨ns, e, h⟩ := aft_oR h
    rw [asBls_rds e hr] at hp
    exact ⟨p, ns, rfl, .of (vis_get hp), aft_bl h tb⟩
  · exact h.elim
theorem a_any : R1D C (rAny C.K) anyF := by
  intro M H vs ds Q tb hid r h
  unfold anyF at h
  split at h
  · obtain ⟨v, rfl, r1⟩ := rds1 r
    simp only [RD] at r1
    obtain ⟨p, us, rfl, hp, hz, hr⟩ := r1
    obtain ⟨ns, e, h⟩ := aft_oR h
    rw [asBls_rds e hr] at hp
    exact ⟨p, ns, rfl, .of (vis_get hp), aft_bl h tb⟩
  · exact h.elim
/-! tuple, list -/
def tupleF : List D → Res D
  | [.lst ds] => .ok (.tup ds)
  | [.tup ds] => .ok (.tup ds)
  | _ => .stk
theorem a_tuple : R1D C (fun xs H Q => ∃ p ys, xs = [.ref p] ∧ ((SqL C.K H p ys ∧ ∀ l, H l = none → Q (.ref l) (upd H l (.tup ys))) ∨ (SqT C.K H p ys ∧ Q (.ref p) H))) tupleF := by
  intro M H vs ds Q tb hid r h
  unfold tupleF at h
  split at h
  · obtain ⟨v, rfl, r1⟩ := rds1 r
    simp only [RD] at r1
    obtain ⟨p, us, rfl, hp, hz, hr⟩ := r1
    exact ⟨p, us, rfl, .inl ⟨.of (vis_get hp), fun l n => aft_tup h tb hid n hz hr⟩⟩
  · obtain ⟨v, rfl, r1⟩ := rds1 r
    have r2 := r1
    simp only [RD] at r1
    obtain ⟨p, us, rfl, hp, hz, hr⟩ := r1
    exact ⟨p, us, rfl, .inr ⟨vis_sqT hp, aft_here h tb r2⟩⟩
  · exact h.elim
def listF : List D → Res D
  | [.lst ds] => .ok (.lst ds)
  | [.tup ds] => .ok (.lst ds)
  | _ => .stk
theorem a_list : R1D C (fun xs H Q => ∃ p ys, xs = [.ref p] ∧ (SqL C.K H p ys ∨ SqT C.K H p ys) ∧ ∀ l, H l = none → Q (.ref l) (upd H l (.lst ys))) listF := by
  intro M H vs ds Q tb hid r h
  unfold listF at h
  split at h
  · obtain ⟨v, rfl, r1⟩ := rds1 r
    simp only [RD] at r1
    obtain ⟨p, us, rfl, hp, hz, hr⟩ := r1
    exact ⟨p, us, rfl, .inl (.of (vis_get hp)), fun l n => aft_lst h tb hid n hz hr⟩
  · obtain ⟨v, rfl, r1⟩ := rds1 r
    simp only [RD] at r1
    obtain ⟨p, us, rfl, hp, hz, hr⟩ := r1
    exact ⟨p, us, rfl, .inr (vis_sqT hp), fun l n => aft_lst h tb hid n hz hr⟩
  · exact h.elim
/-! isinstance -/
def tyName : D → Option String
  | .non => some "NoneType" | .bl _ => some "bool" | .int _ => some "int" | .str _ => some "str" | .tup _ => some "tuple"
  | .lst _ => some "list" | .scr _ => some "list" | .dct _ _ => none | .ref _ => none
def isiB (a b : String) : Bool := a == b || (a == "bool" && b == "int")
def isiF (T : String) (d : D) : Res D := match tyName d with
  | some t => .ok (.bl (isiB t T))
  | none => .stk
theorem kits : (["NoneType", "bool", "int", "str", "tuple", "list"].all fun a => ["int", "bool", "str", "tuple", "list", "dict"].all fun b => decide (kitB a b = some (isiB a b))) = true := by decide +kernel
theorem tyX_rd {K : PySem.W.Frag} {H : Hp} {v : V} {d : D} {t : String} (r : RD K H v d) (h : tyName d = some t) : TyX K H v (.type t) ∧ t ∈ ["NoneType", "bool", "int", "str", "tuple", "list"] := by
  cases d with
  | non => cases h; simp only [RD] at r; subst r; exact ⟨.base .non, by decide⟩
  | bl b => cases h; simp only [RD] at r; subst r; exact ⟨.base (.bl _), by decide⟩
  | int b => cases h; simp only [RD] at r; subst r; exact ⟨.base (.int _), by decide⟩
  | str b => cases h; simp only [RD] at r; rw [r.1]; exact ⟨.base (.str _), by decide⟩
  | tup b =>
    cases h; simp only [RD] at r
    obtain ⟨a, vs, rfl, hs, _⟩ := r
    refine ⟨?_, by decide⟩
    exact .base (.tup hs)
  | lst b =>
    cases h; simp only [RD] at r
    obtain ⟨a, vs, rfl, hs, _⟩ := r
    exact ⟨.base (.lst hs), by decide⟩
  | scr b =>
    cases h; simp only [RD] at r
    obtain ⟨a, rfl, hs, _⟩ := r
    refine ⟨?_, by decide⟩
    rcases hs with (h | ⟨o, h⟩) | ⟨o, its, n, h1, h2, _⟩
    · exact .base (.lst h)
    · exact .base (.frz h)
    · exact .kList h1 h2
  | _ => cases h
theorem d_isi {ty : Str} {tn : String} {p q : Pos} (hg : Gl X "isinstance") (hm : X.mg "isinstance" = none) (ha : PE X a (tD (dc X T E) ma)) (ht : PE X (.Name ty q) (tC (.ty tn))) (hk : tn ∈ ["int", "bool", "str", "tuple", "list", "dict"] := by decide)
    (he : starEach [a, .Name ty q] X.env = (false, eval a X.env) :: starEach [.Name ty q] X.env := by rfl) (hpl : (backTo pos (starEach [.Name ty q] X.env)).any (·.1) = false := by rfl)
    (hs1 : starEach [.Name ty q] X.env = (false, eval (.Name ty q) X.env) :: starEach [] X.env := by rfl) :
    PE X (.Call (.Name "isinstance" p) [a, .Name ty q] [] pos) (tD (dc X T E) (m1 (isiF tn) ma)) :=
  pe_imp (pe_callB call_isi hg hm (by decide +kernel) (pa_cons ha (pa_cons ht pa_nil hs1) he) (by decide) (by decide) he hpl) fun σ H Q ⟨M, ρ, st, q⟩ => by
    refine ⟨M, ρ, st, (aft.bind (Rel := RD X.K) q).imp fun x H1 ⟨d, _, e1, r1, q1⟩ => ?_⟩
    unfold isiF at q1
    cases e : tyName d with
    | none => rw [e] at q1; exact q1.elim
    | some t =>
      rw [e] at q1
      obtain ⟨tx, hm⟩ := tyX_rd (r1.ext (hide_le M H1)) e
      refine ⟨x, .ty tn, .type t, .type tn, isiB t tn, rfl, .ty tn, tx, ?_, aft_bl q1 e1.tab⟩
      exact kit_ty (of_decide_eq_true (List.all_eq_true.mp (List.all_eq_true.mp kits t hm) tn hk))
/-! numbers and texts -/
def digN (n : Nat) : List Nat := (Nat.toDigits 10 n).map Char.toNat
theorem digN_lt {n : Nat} (h : n < 10) : digN n = [48 + n] := TL.numL_lt h
theorem digN_ge {n : Nat} (h : 10 ≤ n) : digN n = digN (n / 10) ++ [48 + n % 10] := TL.numL_step h
theorem digN_len : ∀ (k n : Nat), n < 10 ^ (k + 1) → (digN n).length ≤ k + 1
  | 0, n, h => by rw [digN_lt (by simpa using h)]; simp
  | k + 1, n, h => by
    by_cases h1 : n < 10
    · rw [digN_lt h1]; simp
    · rw [digN_ge (by omega), List.length_append]
      have h2 : n / 10 < 10 ^ (k + 1) := by
        rw [Nat.div_lt_iff_lt_mul (by decide)]
        rw [Nat.pow_succ] at h; exact h
      have := digN_len k (n / 10) h2
      simp; omega
def strF : List D → Res D
  | [.int i] => if 0 ≤ i ∧ i < 2 ^ 60 then .ok (.str (digN i.toNat)) else .stk
  | _ => .stk
theorem digN_all (n : Nat) : NumText.AllDigits (digN n) := TL.numL_digits n
theorem okS_dig {s : List Nat} (h : NumText.AllDigits s) (hl : s.length ≤ sizeLine) : OkS s := ⟨hl, fun c hc => by have := h c hc; omega⟩
theorem a_str : R1D C (fun xs H Q => ∃ i : Int, xs = [.int i] ∧ i.natAbs.log2 < 1920 ∧ Q (.str (toString i)) H) strF := by
  intro M H vs ds Q tb hid r h
  unfold strF at h
  split at h
  · rename_i i
    obtain ⟨v, rfl, r1⟩ := rds1 r
    simp only [RD] at r1
    subst r1
    obtain ⟨⟨h0, h1⟩, h⟩ := aft_if h
    have hb : i.natAbs < 2 ^ 60 := by omega
    refine ⟨i, rfl, Nat.lt_trans (PySem.Flt.log2_lt_of (by decide) hb) (by decide), ?_⟩
    obtain ⟨n, rfl⟩ : ∃ n : Nat, i = (n : Int) := ⟨i.toNat, by omega⟩
    have e : Str.ofString (toString (n : Int)) = ⟨(digN n).toArray⟩ := by
      have e1 := PySem.W.KIN.signs_num n
      have e2 : (Str.ofString (toString (n : Int))).cps = (digN n).toArray := by
        apply Array.ext'
        rw [e1]; simp [digN]
      cases q : Str.ofString (toString (n : Int)) with
      | mk c => rw [q] at e2; rw [show c = _ from e2]
    show Q (.str (Str.ofString (toString (n : Int)))) H
    rw [e]
    rw [Int.toNat_natCast] at h
    refine aft_str h tb (okS_dig (digN_all n) ?_)
    have h2 : n < 10 ^ 19 := Nat.lt_trans (by omega : n < 2 ^ 60) (by decide)
    have hlen := digN_len 18 n h2
    rw [sizeLine_eq]; omega
  · exact h.elim
def isDig (c : Nat) : Bool := decide (48 ≤ c) && decide (c ≤ 57)
def valN (s : List Nat) : Nat := s.foldl (fun acc c => acc * 10 + (c - 48)) 0
def intF : List D → Res D
  | [.int i] => .ok (.int i)
  | [.bl b] => .ok (.int (if b then 1 else 0))
  | [.str s] => if s ≠ [] ∧ s.all isDig = true ∧ s.length ≤ 600 then .ok (.int (valN s)) else .stk
  | _ => .stk
abbrev rIntAll : List V → Hp → VK → Prop := fun xs H Q => ((∃ i, xs = [.int i] ∧ Q (.int i) H) ∨ ∃ k, xs = [.bl k] ∧ Q (.int (if k then 1 else 0)) H) ∨ ∃ a n, xs = [.str a] ∧ PySem.intText? a = some n ∧ a.length ≤ 640 ∧ Q (.int n) H
theorem call_intAll : CallR X (.type "int") rIntAll := call_int1.or call_int_str
theorem a_int : R1D C rIntAll intF := by
  intro M H vs ds Q tb hid r h
  unfold intF at h
  split at h
  · obtain ⟨v, rfl, r1⟩ := rds1 r
    simp only [RD] at r1
    subst r1
    exact .inl (.inl ⟨_, rfl, aft_int h tb⟩)
  · obtain ⟨v, rfl, r1⟩ := rds1 r
    simp only [RD] at r1
    subst r1
    exact .inl (.inr ⟨_, rfl, aft_int h tb⟩)
  · rename_i s
    obtain ⟨v, rfl, r1⟩ := rds1 r
    simp only [RD] at r1
    obtain ⟨⟨h0, h1, h2⟩, h⟩ := aft_if h
    refine .inr ⟨_, _, by rw [r1.1], intText_digits (x := ⟨s.toArray⟩) (fun c hc => ?_) h0 (by rw [str_len]; omega), by rw [str_len]; omega, aft_int h tb⟩
    have := List.all_eq_true.mp h1 c hc
    unfold isDig at this
    simpa using this
  · exact h.elim
/-! ## methods of texts -/
theorem txt_starts (a b : List Nat) : Txt.startswith ⟨a.toArray⟩ ⟨b.toArray⟩ = b.isPrefixOf a := by
  unfold Txt.startswith
  rw [str_len, str_len, PySem.StrLaws.subAt_eq]
  show (decide (0 + b.length ≤ a.length) && TL.pre b (a.drop 0)) = _
  rw [List.drop_zero]
  unfold TL.pre
  by_cases h : b <+: a
  · have h1 : b.isPrefixOf a = true := List.isPrefixOf_iff_prefix.mpr h
    rw [h1]
    obtain ⟨t, rfl⟩ := h
    simp
  · have h1 : b.isPrefixOf a = false := by
      cases q : b.isPrefixOf a with
      | false => rfl
      | true => exact absurd (List.isPrefixOf_iff_prefix.mp q) h
    rw [h1]
    have : ¬ a.take b.length = b := fun e => h (e ▸ List.take_prefix _ _)
    simp [this]
def startsS (a : List Nat) : D → Res D
  | .str b => .ok (.bl (b.isPrefixOf a))
  | _ => .stk
def asS : D → Res (List Nat)
  | .str s => .ok s
  | _ => .stk
def mS1 (f : List Nat → D → Res D) (ma mb : EnvD → Res D) : EnvD → Res D := fun ρ => (ma ρ).bind fun a => (asS a).bind fun z => (mb ρ).bind (f z)
/-- a method of a text with one argument -/
theorem d_m1 {o : Expr} {name : Str} {id : String} {apos cpos : Pos} {r : V → List V → Hp → VK → Prop} {f : List Nat → D → Res D} (slot : Slot "str" name id) (ty : typeOf (.builtin id) = pure (.type "method_descriptor")) (hm : MtR X id r)
    (hr : ∀ M H z y b Q, Tabs T H → HidOk M H → OkS z → RD X.K (hide M H) y b → aft (dc X T E) M H (RD X.K) (f z b) Q → r (.str ⟨z.toArray⟩) [y] H Q)
    (ho : PE X o (tD (dc X T E) ma)) (ha : PE X e (tD (dc X T E) mb)) (hbase : attributeBase o name X.env (eval o X.env) = eval o X.env := by rfl)
    (hfew : ((backTo cpos (starEach [e] X.env)).all (fun x => !x.1) && (backToKw cpos (keywordEach [] X.env)).all (fun x => x.1.isSome) && decide ([e].length + ([] : List Keyword).length + (if ([] : List Keyword).isEmpty then 0 else 1) < 30)) = true := by rfl)
    (hline : (apos.endLine == cpos.line) = true := by rfl) (hse : starEach [e] X.env = (false, eval e X.env) :: starEach [] X.env := by rfl) (hplain : (backTo cpos (starEach [] X.env)).any (·.1) = false := by rfl) :
    PE X (.Call (.Attribute o name apos) [e] [] cpos) (tD (dc X T E) (mS1 f ma mb)) :=
  pe_imp (pe_bm PySem.F.plainAttrs_str slot ty hm ho (pa_cons ha pa_nil hse) hbase hfew hline hse hplain) fun σ H Q ⟨M, ρ, st, q⟩ => by
    refine ⟨M, ρ, st, (aft.bind (Rel := RD X.K) q).imp fun x H1 ⟨a, _, e1, ra, h1⟩ => ?_⟩
    cases a with
    | str z =>
      simp only [RD] at ra
      rw [ra.1]
      exact ⟨rfl, M, ρ, st.ext e1, (aft.bind (Rel := RD X.K) h1).imp fun y H2 ⟨b, _, e2, rb, h2⟩ => hr M H2 z y b Q e2.tab ((st.hid.ext e1.old).ext e2.old) ra.2 rb h2⟩
    | _ => exact h1.elim
theorem d_starts {o : Expr} {apos cpos : Pos} (ho : PE X o (tD (dc X T E) ma)) (ha : PE X e (tD (dc X T E) mb)) (hbase : attributeBase o "startswith" X.env (eval o X.env) = eval o X.env := by rfl)
    (hfew : ((backTo cpos (starEach [e] X.env)).all (fun x => !x.1) && (backToKw cpos (keywordEach [] X.env)).all (fun x => x.1.isSome) && decide ([e].length + ([] : List Keyword).length + (if ([] : List Keyword).isEmpty then 0 else 1) < 30)) = true := by rfl)
    (hline : (apos.endLine == cpos.line) = true := by rfl) (hse : starEach [e] X.env = (false, eval e X.env) :: starEach [] X.env := by rfl) (hplain : (backTo cpos (starEach [] X.env)).any (·.1) = false := by rfl) :
    PE X (.Call (.Attribute o "startswith" apos) [e] [] cpos) (tD (dc X T E) (mS1 startsS ma mb)) :=
  d_m1 PySem.F.slot_str_startswith PySem.F.type_str_startswith mt_startswith (fun M H z y b Q tb hid oz rb h => by
    unfold startsS at h
    split at h
    · simp only [RD] at rb
      refine ⟨_, _, rfl, by rw [rb.1], ?_⟩
      rw [txt_starts]; exact aft_bl h tb
    · exact h.elim) ho ha hbase hfew hline hse hplain
/-! join -/
def joinL (sep : List Nat) : List (List Nat) → List Nat
  | [] => [] | [x] => x | x :: y :: r => x ++ sep ++ joinL sep (y :: r)
def joinS (sep : List Nat) : D → Res D
  | .lst ds => (oR (asStrs ds)).bind fun ys => if (ys.map (·.length)).sum + ys.length * sep.length ≤ LIM then .ok (.str (joinL sep ys)) else .stk
  | _ => .stk
theorem joinL_str (sep : List Nat) : ∀ ys : List (List Nat), Str.join ⟨sep.toArray⟩ (ys.map fun s => (⟨s.toArray⟩ : Str)) = ⟨(joinL sep ys).toArray⟩
  | [] => rfl
  | [x] => rfl
  | x :: y :: r => by
    have ih := joinL_str sep (y :: r)
    show (⟨x.toArray⟩ : Str) ++ ⟨sep.toArray⟩ ++ Str.join ⟨sep.toArray⟩ ((y :: r).map fun s => (⟨s.toArray⟩ : Str)) = _
    rw [ih, str_app, str_app]; rfl
theorem joinL_len (sep : List Nat) : ∀ ys : List (List Nat), (joinL sep ys).length ≤ (ys.map (·.length)).sum + ys.length * sep.length
  | [] => by simp [joinL]
  | [x] => by simp [joinL]
  | x :: y :: r => by
    have ih := joinL_len sep (y :: r)
    simp only [joinL, List.length_append, List.map_cons, List.sum_cons, List.length_cons] at ih ⊢
    rw [Nat.add_mul]
    omega
theorem joinL_mem (sep : List Nat) : ∀ (ys : List (List Nat)) (c : Nat), c ∈ joinL sep ys → c ∈ sep ∨ ∃ y ∈ ys, c ∈ y
  | [], c, h => by simp [joinL] at h
  | [x], c, h => .inr ⟨x, by simp, h⟩
  | x :: y :: r, c, h => by
    simp only [joinL, List.mem_append] at h
    rcases h with (h | h) | h
    · exact .inr ⟨x, by simp, h⟩
    · exact .inl h
    · rcases joinL_mem sep (y :: r) c h with h | ⟨z, hz, h⟩
      · exact .inl h
      · exact .inr ⟨z, List.mem_cons_of_mem _ hz, h⟩
theorem d_join {o : Expr} {apos cpos : Pos} (ho : PE X o (tD (dc X T E) ma)) (ha : PE X e (tD (dc X T E) mb)) (hbase : attributeBase o "join" X.env (eval o X.env) = eval o X.env := by rfl)
    (hfew : ((backTo cpos (starEach [e] X.env)).all (fun x => !x.1) && (backToKw cpos (keywordEach [] X.env)).all (fun x => x.1.isSome) && decide ([e].length + ([] : List Keyword).length + (if ([] : List Keyword).isEmpty then 0 else 1) < 30)) = true := by rfl)
    (hline : (apos.endLine == cpos.line) = true := by rfl) (hse : starEach [e] X.env = (false, eval e X.env) :: starEach [] X.env := by rfl) (hplain : (backTo cpos (starEach [] X.env)).any (·.1) = false := by rfl) :
    PE X (.Call (.Attribute o "join" apos) [e] [] cpos) (tD (dc X T E) (mS1 joinS ma mb)) :=
  d_m1 PySem.F.slot_str_join PySem.F.type_str_join mt_join (fun M H z y b Q tb hid oz rb h => by
    unfold joinS at h
    split at h
    · obtain ⟨ys, ey, h⟩ := aft_oR h
      obtain ⟨hl, h⟩ := aft_if h
      simp only [RD] at rb
      obtain ⟨p, vs, rfl, hp, hz, hr⟩ := rb
      obtain ⟨e1, ho⟩ := asStrs_rds ey hr
      rw [e1] at hp
      have e2 : ((ys.map fun s => (⟨s.toArray⟩ : Str)).map (·.length)) = ys.map (·.length) := by
        rw [List.map_map]; exact List.map_congr_left fun s _ => str_len s
      refine ⟨_, p, ys.map fun s => (⟨s.toArray⟩ : Str), rfl, rfl, .inl (.of (vis_get hp)), ?_, ?_⟩
      · rw [e2, List.length_map, str_len]; unfold LIM at hl; omega
      · rw [TL.join_eq, joinL_str]
        refine aft_str h tb ⟨lim_le (Nat.le_trans (joinL_len z ys) hl), fun c hc => ?_⟩
        rcases joinL_mem z ys c hc with h | ⟨y, hy, h⟩
        · exact oz.2 c h
        · exact (ho y hy).2 c h
    · exact h.elim) ho ha hbase hfew hline hse hplain
end
end DL
namespace DL
open PySem PySem.Spec PyProof.Rows L2 LamX
/-! ## statements -/
/-! ## things that a slot alone holds -/
inductive Tr where
  | leaf (d : D) | lst (ts : List Tr) | dK (ks : List Key) (ts : List Tr) | dT (ks : List (List Key)) (ts : List Tr) | ins (c : Str) (ns : List Str) (ts : List Tr)
mutual
/-- the thing t stands at v; fp: its own objects -/
def TrAt (K : PySem.W.Frag) (Hv H : Hp) : V → Tr → List Addr → Prop
  | v, .leaf d, fp => RD K Hv v d ∧ fp = []
  | v, .lst ts, fp => ∃ p vs f, v = .ref p ∧ H p = some (.lst vs) ∧ vs.length ≤ sizeLine ∧ TrsAt K Hv H vs ts f ∧ fp = p :: f
  | v, .dK ks ts, fp => ∃ p vs f, v = .ref p ∧ H p = some (.dK (ks.zip vs)) ∧ (ks.length = vs.length ∧ ks.Nodup ∧ ∀ k ∈ ks, KeyOk k) ∧ TrsAt K Hv H vs ts f ∧ fp = p :: f
  | v, .dT ks ts, fp => ∃ p vs f, v = .ref p ∧ H p = some (.dT (ks.zip vs)) ∧ (ks.length = vs.length ∧ ks.Nodup ∧ ∀ k ∈ ks, ∀ x ∈ k, KeyOk x) ∧ TrsAt K Hv H vs ts f ∧ fp = p :: f
  | v, .ins c ns ts, fp => ∃ p dx vs f, v = .ref p ∧ H p = some (.ins (He.ga K c) dx (ns.zip vs)) ∧ H dx = some (.own p) ∧ (ns.length = vs.length ∧ ns.Nodup) ∧ TrsAt K Hv H vs ts f ∧ fp = p :: dx :: f
def TrsAt (K : PySem.W.Frag) (Hv H : Hp) : List V → List Tr → List Addr → Prop
  | vs, [], fp => vs = [] ∧ fp = []
  | vs, t :: ts, fp => ∃ v r f g, vs = v :: r ∧ TrAt K Hv H v t f ∧ TrsAt K Hv H r ts g ∧ fp = f ++ g
end
mutual
def Tr.toD : Tr → Option D
  | .leaf d => some d
  | .lst ts => (toDs ts).map D.lst
  | .dK ks ts => (toDs ts).map (D.dct (ks.map keyD))
  | .dT ks ts => (toDs ts).map (D.dct (ks.map tupD))
  | .ins _ _ _ => none
def toDs : List Tr → Option (List D)
  | [] => some []
  | t :: ts => t.toD.bind fun d => (toDs ts).map (d :: ·)
end
mutual
theorem TrAt.mono {K : PySem.W.Frag} {Hv Hv' H H' : Hp} (e : ExtN Hv Hv') : ∀ {v : V} {t : Tr} {fp : List Addr}, (∀ a ∈ fp, ∀ o, H a = some o → (∀ ps, o ≠ .tbl ps) → H' a = some o) → TrAt K Hv H v t fp → TrAt K Hv' H' v t fp
  | v, .leaf d, fp, _, h => by
    simp only [TrAt] at h ⊢
    exact ⟨h.1.ext e, h.2⟩
  | v, .lst ts, fp, k, h => by
    simp only [TrAt] at h ⊢
    obtain ⟨p, vs, f, h1, h2, h3, h4, rfl⟩ := h
    exact ⟨p, vs, f, h1, k p List.mem_cons_self _ h2 (fun ps z => by cases z), h3, TrsAt.mono e (fun a ha => k a (List.mem_cons_of_mem _ ha)) h4, rfl⟩
  | v, .dK ks ts, fp, k, h => by
    simp only [TrAt] at h ⊢
    obtain ⟨p, vs, f, h1, h2, h3, h4, rfl⟩ := h
    exact ⟨p, vs, f, h1, k p List.mem_cons_self _ h2 (fun ps z => by cases z), h3, TrsAt.mono e (fun a ha => k a (List.mem_cons_of_mem _ ha)) h4, rfl⟩
  | v, .dT ks ts, fp, k, h => by
    simp only [TrAt] at h ⊢
    obtain ⟨p, vs, f, h1, h2, h3, h4, rfl⟩ := h
    exact ⟨p, vs, f, h1, k p List.mem_cons_self _ h2 (fun ps z => by cases z), h3, TrsAt.mono e (fun a ha => k a (List.mem_cons_of_mem _ ha)) h4, rfl⟩
  | v, .ins c ns ts, fp, k, h => by
    simp only [TrAt] at h ⊢
    obtain ⟨p, dx, vs, f, h1, h2, h3, h4, h5, rfl⟩ := h
    exact ⟨p, dx, vs, f, h1, k p List.mem_cons_self _ h2 (fun ps z => by cases z), k dx (List.mem_cons_of_mem _ List.mem_cons_self) _ h3 (fun ps z => by cases z), h4, TrsAt.mono e (fun a ha => k a (List.mem_cons_of_mem _ (List.mem_cons_of_mem _ ha))) h5, rfl⟩
theorem TrsAt.mono {K : PySem.W.Frag} {Hv Hv' H H' : Hp} (e : ExtN Hv Hv') : ∀ {vs : List V} {ts : List Tr} {fp : List Addr}, (∀ a ∈ fp, ∀ o, H a = some o → (∀ ps, o ≠ .tbl ps) → H' a = some o) → TrsAt K Hv H vs ts fp → TrsAt K Hv' H' vs ts fp
  | vs, [], fp, _, h => by simpa only [TrsAt] using h
  | vs, t :: ts, fp, k, h => by
    simp only [TrsAt] at h ⊢
    obtain ⟨v, r, f, g, h1, h2, h3, rfl⟩ := h
    exact ⟨v, r, f, g, h1, TrAt.mono e (fun a ha => k a (List.mem_append_left _ ha)) h2, TrsAt.mono e (fun a ha => k a (List.mem_append_right _ ha)) h3, rfl⟩
end
mutual
/-- what a slot alone held is shared from now on -/
theorem TrAt.rd {K : PySem.W.Frag} {Hv Hv' H : Hp} (e : ExtN Hv Hv') : ∀ {v : V} {t : Tr} {fp : List Addr} {d : D}, (∀ a ∈ fp, Hv' a = H a) → TrAt K Hv H v t fp → t.toD = some d → RD K Hv' v d
  | v, .leaf d, fp, d', _, h, q => by
    simp only [TrAt] at h
    simp only [Tr.toD] at q
    cases q
    exact h.1.ext e
  | v, .lst ts, fp, d', k, h, q => by
    simp only [TrAt] at h
    simp only [Tr.toD] at q
    obtain ⟨ds, q1, rfl⟩ := Option.map_eq_some_iff.mp q
    obtain ⟨p, vs, f, rfl, h2, h3, h4, rfl⟩ := h
    simp only [RD]
    exact ⟨p, vs, rfl, (k p List.mem_cons_self).trans h2, h3, TrsAt.rds e (fun a ha => k a (List.mem_cons_of_mem _ ha)) h4 q1⟩
  | v, .dK ks ts, fp, d', k, h, q => by
    simp only [TrAt] at h
    simp only [Tr.toD] at q
    obtain ⟨ds, q1, rfl⟩ := Option.map_eq_some_iff.mp q
    obtain ⟨p, vs, f, rfl, h2, ⟨h3, h3', h3''⟩, h4, rfl⟩ := h
    simp only [RD]
    exact ⟨p, vs, rfl, .inl ⟨ks, (k p List.mem_cons_self).trans h2, rfl, h3, h3', h3''⟩, TrsAt.rds e (fun a ha => k a (List.mem_cons_of_mem _ ha)) h4 q1⟩
  | v, .dT ks ts, fp, d', k, h, q => by
    simp only [TrAt] at h
    simp only [Tr.toD] at q
    obtain ⟨ds, q1, rfl⟩ := Option.map_eq_some_iff.mp q
    obtain ⟨p, vs, f, rfl, h2, ⟨h3, h3', h3''⟩, h4, rfl⟩ := h
    simp only [RD]
    exact ⟨p, vs, rfl, .inr ⟨ks, (k p List.mem_cons_self).trans h2, rfl, h3, h3', h3''⟩, TrsAt.rds e (fun a ha => k a (List.mem_cons_of_mem _ ha)) h4 q1⟩
  | v, .ins c ns ts, fp, d', k, h, q => by
    simp only [Tr.toD] at q
    cases q
theorem TrsAt.rds {K : PySem.W.Frag} {Hv Hv' H : Hp} (e : ExtN Hv Hv') : ∀ {vs : List V} {ts : List Tr} {fp : List Addr} {ds : List D}, (∀ a ∈ fp, Hv' a = H a) → TrsAt K Hv H vs ts fp → toDs ts = some ds → RDs K Hv' vs ds
  | vs, [], fp, ds, _, h, q => by
    simp only [TrsAt] at h
    simp only [toDs] at q
    cases q
    rw [h.1]; exact .nil
  | vs, t :: ts, fp, ds, k, h, q => by
    simp only [TrsAt] at h
    simp only [toDs] at q
    obtain ⟨d, q1, q2⟩ := Option.bind_eq_some_iff.mp q
    obtain ⟨ds', q3, rfl⟩ := Option.map_eq_some_iff.mp q2
    obtain ⟨v, r, f, g, rfl, h2, h3, rfl⟩ := h
    exact .cons (TrAt.rd e (fun a ha => k a (List.mem_append_left _ ha)) h2 q1) (TrsAt.rds e (fun a ha => k a (List.mem_append_right _ ha)) h3 q3)
end
/-- a slot: empty; a datum; a list of data, another thing, that this slot alone holds -/
inductive Sl where
  | no | val (d : D) | own (ds : List D) | tre (t : Tr)
abbrev EnvS := List Sl
inductive Out where
  | next (ρ : EnvS) | ret (d : D) | brk (ρ : EnvS) | cont (ρ : EnvS) | exc (c : String) | stk
def visS : Sl → Option D
  | .val d => some d
  | _ => none
def vis (ρ : EnvS) : EnvD := ρ.map visS
def frzS : Sl → Sl
  | .own ds => .val (.lst ds)
  | s => s
def freeze : List Nat → EnvS → EnvS
  | [], ρ => ρ
  | i :: is, ρ => freeze is (match ρ[i]? with
    | some (.own ds) => ρ.set i (.val (.lst ds))
    | some (.tre t) => (match t.toD with
      | some d => ρ.set i (.val d)
      | none => ρ)
    | _ => ρ)
/-- the things that slots alone hold stand, apart from one another -/
def TreOk (K : PySem.W.Frag) (M O : List Addr) (σ : L2.St) (ρ : EnvS) (H : Hp) : Prop := ∃ F : Nat → List Addr,
  (∀ (i : Nat) (t : Tr), ρ[i]? = some (.tre t) → ∃ v, σ[i]? = some (some v) ∧ TrAt K (hide O H) H v t (F i) ∧ (F i).Nodup ∧ ∀ a ∈ F i, a ∈ O ∧ a ∉ M) ∧
  (∀ (i j : Nat) (ti tj : Tr), i ≠ j → ρ[i]? = some (.tre ti) → ρ[j]? = some (.tre tj) → ∀ a ∈ F i, a ∉ F j) ∧
  ∀ (i j : Nat) (ds : List D) (t : Tr) (p : Addr), ρ[i]? = some (.own ds) → ρ[j]? = some (.tre t) → σ[i]? = some (some (.ref p)) → p ∉ F j
structure StS (C : DC) (G : Hp) (M O : List Addr) (σ : L2.St) (ρ : EnvS) (H : Hp) : Prop where
  tab : Tabs C.T H
  gnd : ExtN G H
  sub : ∀ a ∈ M, a ∈ O
  hid : HidOk O H
  fre : ∀ a ∈ O, a ∈ M ∨ G a = none
  ntb : ∀ a ps, G a ≠ some (.tbl ps)
  len : σ.length = ρ.length
  val : ∀ (i : Nat) (d : D), ρ[i]? = some (.val d) → ∃ v, σ[i]? = some (some v) ∧ RD C.K (hide O H) v d
  own : ∀ (i : Nat) (ds : List D), ρ[i]? = some (.own ds) → ∃ p vs, σ[i]? = some (some (.ref p)) ∧ p ∈ O ∧ p ∉ M ∧ H p = some (.lst vs) ∧ vs.length ≤ sizeLine ∧ RDs C.K (hide O H) vs ds
  inj : ∀ (i j : Nat) (p : Addr) (di dj : List D), ρ[i]? = some (.own di) → ρ[j]? = some (.own dj) → σ[i]? = some (some (.ref p)) → σ[j]? = some (some (.ref p)) → i = j
  trs : TreOk C.K M O σ ρ H
section
variable {C : DC} {G H H' : Hp} {M O : List Addr} {σ : L2.St} {ρ : EnvS}
theorem vis_get? {ρ : EnvS} {i : Nat} {d : D} (h : (vis ρ)[i]? = some (some d)) : ρ[i]? = some (.val d) := by
  unfold vis at h
  rw [List.getElem?_map] at h
  cases e : ρ[i]? with
  | none => rw [e] at h; cases h
  | some s =>
    rw [e] at h
    cases s with
    | val x =>
      have e : x = d := by simpa [visS] using h
      rw [e]
    | no => simp [visS] at h
    | own _ => simp [visS] at h
    | tre _ => simp [visS] at h
theorem StS.toE (s : StS C G M O σ ρ H) : StE C O σ (vis ρ) H := ⟨s.tab, s.hid, by unfold vis; rw [List.length_map, s.len], fun i d h => s.val i d (vis_get? h)⟩
theorem StS.ext (s : StS C G M O σ ρ H) (e : ExtT C H H') : StS C G M O σ ρ H' :=
  ⟨e.tab, s.gnd.trans e.old, s.sub, s.hid.ext e.old, s.fre, s.ntb, s.len, fun i d h => let ⟨v, h1, h2⟩ := s.val i d h; ⟨v, h1, h2.ext (hide_mono O e.old)⟩,
    fun i ds h => let ⟨p, vs, h1, h2, h3, h4, h5, h6⟩ := s.own i ds h; ⟨p, vs, h1, h2, h3, e.old p _ h4 (fun ps z => by cases z), h5, h6.ext (hide_mono O e.old)⟩, s.inj, let ⟨F, f1, f2, f3⟩ := s.trs; ⟨F, fun i t h => let ⟨v, h1, h2, h3, h4⟩ := f1 i t h; ⟨v, h1, h2.mono (hide_mono O e.old) (fun a _ o ha n => e.old a o ha n), h3, h4⟩, f2, f3⟩⟩
theorem getElem?_set_cases {α : Type} {l : List α} {i j : Nat} {x y : α} (h : (l.set i x)[j]? = some y) : (j = i ∧ y = x) ∨ (j ≠ i ∧ l[j]? = some y) := by
  by_cases e : j = i
  · subst e
    by_cases hl : j < l.length
    · rw [List.getElem?_set_self hl] at h; exact .inl ⟨rfl, (Option.some.inj h).symm⟩
    · rw [List.getElem?_eq_none (by rw [List.length_set]; omega)] at h; cases h
  · rw [List.getElem?_set_ne (Ne.symm e)] at h; exact .inr ⟨e, h⟩
/-- a slot is written that holds no such thing -/
theorem TreOk.set {K : PySem.W.Frag} (t : TreOk K M O σ ρ H) {i : Nat} {v : Option V} {x : Sl} (h : ∀ t, x ≠ .tre t) (h2 : ∀ ds, x ≠ .own ds) : TreOk K M O (σ.set i v) (ρ.set i x) H := by
  obtain ⟨F, f1, f2, f3⟩ := t
  have back : ∀ {j : Nat} {t : Tr}, (ρ.set i x)[j]? = some (.tre t) → j ≠ i ∧ ρ[j]? = some (.tre t) := fun {j t} q => by
    rcases getElem?_set_cases q with ⟨_, e⟩ | ⟨hn, q⟩
    · exact absurd e.symm (h t)
    · exact ⟨hn, q⟩
  refine ⟨F, fun j t q => ?_, fun j k tj tk n q1 q2 => f2 j k tj tk n (back q1).2 (back q2).2, fun j k ds t p q1 q2 q3 => ?_⟩
  · obtain ⟨hn, q⟩ := back q
    rw [List.getElem?_set_ne (Ne.symm hn)]
    exact f1 j t q
  · rcases getElem?_set_cases q1 with ⟨_, e⟩ | ⟨hn, q1⟩
    · exact absurd e.symm (h2 ds)
    · rw [List.getElem?_set_ne (Ne.symm hn)] at q3
      exact f3 j k ds t p q1 (back q2).2 q3
theorem TreOk.setR {K : PySem.W.Frag} (t : TreOk K M O σ ρ H) {i : Nat} {x : Sl} (h : ∀ t, x ≠ .tre t) (h2 : ∀ ds, x ≠ .own ds) : TreOk K M O σ (ρ.set i x) H := by
  obtain ⟨F, f1, f2, f3⟩ := t
  have back : ∀ {j : Nat} {t : Tr}, (ρ.set i x)[j]? = some (.tre t) → ρ[j]? = some (.tre t) := fun {j t} q => by
    rcases getElem?_set_cases q with ⟨_, e⟩ | ⟨hn, q⟩
    · exact absurd e.symm (h t)
    · exact q
  refine ⟨F, fun j t q => f1 j t (back q), fun j k tj tk n q1 q2 => f2 j k tj tk n (back q1) (back q2), fun j k ds t p q1 q2 q3 => ?_⟩
  rcases getElem?_set_cases q1 with ⟨_, e⟩ | ⟨hn, q1⟩
  · exact absurd e.symm (h2 ds)
  · exact f3 j k ds t p q1 (back q2) q3
theorem TreOk.none {K : PySem.W.Frag} (h : ∀ (i : Nat) (t : Tr), ρ[i]? ≠ some (.tre t)) : TreOk K M O σ ρ H := ⟨fun _ => [], fun i t q => absurd q (h i t), fun i j ti tj n q => absurd q (h i ti), fun i j ds t p q1 q2 => absurd q2 (h j t)⟩
/-- fewer things are hidden -/
theorem TreOk.less {K : PySem.W.Frag} {O' : List Addr} (t : TreOk K M O σ ρ H) (sub : ∀ a ∈ O', a ∈ O) (keep : ∀ F : Nat → List Addr, (∀ (i : Nat) (t : Tr), ρ[i]? = some (.tre t) → ∃ v, σ[i]? = some (some v) ∧ TrAt K (hide O H) H v t (F i) ∧ (F i).Nodup ∧ ∀ a ∈ F i, a ∈ O ∧ a ∉ M) →
    (∀ (i j : Nat) (ti tj : Tr), i ≠ j → ρ[i]? = some (.tre ti) → ρ[j]? = some (.tre tj) → ∀ a ∈ F i, a ∉ F j) → (∀ (i j : Nat) (ds : List D) (t : Tr) (p : Addr), ρ[i]? = some (.own ds) → ρ[j]? = some (.tre t) → σ[i]? = some (some (.ref p)) → p ∉ F j) → ∀ (i : Nat) (t : Tr), ρ[i]? = some (.tre t) → ∀ a ∈ F i, a ∈ O') : TreOk K M O' σ ρ H := by
  obtain ⟨F, f1, f2, f3⟩ := t
  have k := keep F f1 f2 f3
  refine ⟨F, fun i t q => ?_, f2, f3⟩
  obtain ⟨v, h1, h2, h3, h4⟩ := f1 i t q
  exact ⟨v, h1, h2.mono (hide_sub H sub) (fun a _ o ha _ => ha), h3, fun a ha => ⟨k i t q a ha, (h4 a ha).2⟩⟩
/-- a slot takes a datum -/
theorem StS.setVal (s : StS C G M O σ ρ H) {i : Nat} {v : V} {d : D} (r : RD C.K (hide O H) v d) : StS C G M O (σ.set i (some v)) (ρ.set i (.val d)) H := by
  refine ⟨s.tab, s.gnd, s.sub, s.hid, s.fre, s.ntb, by rw [List.length_set, List.length_set, s.len], fun j e h => ?_, fun j ds h => ?_, fun j k p dj dk h1 h2 h3 h4 => ?_, s.trs.set (fun t z => by cases z) (fun t z => by cases z)⟩
  · rcases getElem?_set_cases h with ⟨rfl, e1⟩ | ⟨hn, h⟩
    · cases e1
      have hl : j < ρ.length := by
        rcases Nat.lt_or_ge j ρ.length with z | z
        · exact z
        · rw [List.getElem?_eq_none (by rw [List.length_set]; omega)] at h; cases h
      exact ⟨v, List.getElem?_set_self (by rw [s.len]; exact hl), r⟩
    · rw [List.getElem?_set_ne (Ne.symm hn)]; exact s.val j e h
  · rcases getElem?_set_cases h with ⟨rfl, e1⟩ | ⟨hn, h⟩
    · cases e1
    · rw [List.getElem?_set_ne (Ne.symm hn)]; exact s.own j ds h
  · rcases getElem?_set_cases h1 with ⟨rfl, e1⟩ | ⟨hn, h1⟩
    · cases e1
    · rcases getElem?_set_cases h2 with ⟨rfl, e1⟩ | ⟨hn2, h2⟩
      · cases e1
      · rw [List.getElem?_set_ne (Ne.symm hn)] at h3
        rw [List.getElem?_set_ne (Ne.symm hn2)] at h4
        exact s.inj j k p dj dk h1 h2 h3 h4
/-- one list is shared from now on -/
theorem StS.freeze1 (s : StS C G M O σ ρ H) {i : Nat} {ds : List D} (hi : ρ[i]? = some (.own ds)) : ∃ O', StS C G M O' σ (ρ.set i (.val (.lst ds))) H ∧ ∀ a ∈ O', a ∈ O := by
  obtain ⟨p, vs, h1, h2, h3, h4, h5, h6⟩ := s.own i ds hi
  have sub : ∀ a ∈ O.filter (fun a => decide (a ≠ p)), a ∈ O := fun a ha => (List.mem_filter.mp ha).1
  have np : p ∉ O.filter (fun a => decide (a ≠ p)) := fun z => by simpa using (List.mem_filter.mp z).2
  have le : ExtN (hide O H) (hide (O.filter (fun a => decide (a ≠ p))) H) := hide_sub H sub
  refine ⟨O.filter (fun a => decide (a ≠ p)), ⟨s.tab, s.gnd, fun a ha => List.mem_filter.mpr ⟨s.sub a ha, decide_eq_true fun e => h3 (e ▸ ha)⟩, s.hid.sub sub, fun a ha => s.fre a (sub a ha), s.ntb, by rw [List.length_set, s.len], fun j e h => ?_, fun j es h => ?_, fun j k q dj dk e1 e2 e3 e4 => ?_, TreOk.setR (s.trs.less sub fun F f1 f2 f3 j t q a ha => let ⟨_, _, _, _, f4⟩ := f1 j t q; List.mem_filter.mpr ⟨(f4 a ha).1, decide_eq_true fun e => f3 i j ds t p hi q h1 (e ▸ ha)⟩) (fun t z => by cases z) (fun t z => by cases z)⟩, sub⟩
  · rcases getElem?_set_cases h with ⟨rfl, e1⟩ | ⟨hn, h⟩
    · cases e1
      refine ⟨.ref p, h1, ?_⟩
      simp only [RD]
      exact ⟨p, vs, rfl, by rw [hide_out np]; exact h4, h5, h6.ext le⟩
    · obtain ⟨v, a1, a2⟩ := s.val j e h
      exact ⟨v, a1, a2.ext le⟩
  · rcases getElem?_set_cases h with ⟨rfl, e1⟩ | ⟨hn, h⟩
    · cases e1
    · obtain ⟨q, us, a1, a2, a3, a4, a5, a6⟩ := s.own j es h
      refine ⟨q, us, a1, List.mem_filter.mpr ⟨a2, decide_eq_true fun e => ?_⟩, a3, a4, a5, a6.ext le⟩
      subst e
      exact hn (s.inj j i q es ds h hi a1 h1)
  · rcases getElem?_set_cases e1 with ⟨rfl, z⟩ | ⟨hn, e1⟩
    · cases z
    · rcases getElem?_set_cases e2 with ⟨rfl, z⟩ | ⟨hn2, e2⟩
      · cases z
      · exact s.inj j k q dj dk e1 e2 e3 e4
/-- a thing is shared from now on -/
theorem StS.freezeT (s : StS C G M O σ ρ H) {i : Nat} {t : Tr} {d : D} (hi : ρ[i]? = some (.tre t)) (ht : t.toD = some d) : ∃ O', StS C G M O' σ (ρ.set i (.val d)) H ∧ ∀ a ∈ O', a ∈ O := by
  obtain ⟨F, f1, f2, f3⟩ := s.trs
  obtain ⟨v, h1, h2, h3, h4⟩ := f1 i t hi
  have sub : ∀ a ∈ O.filter (fun a => decide (a ∉ F i)), a ∈ O := fun a ha => (List.mem_filter.mp ha).1
  have np : ∀ a ∈ F i, a ∉ O.filter (fun a => decide (a ∉ F i)) := fun a ha z => by
    have := (List.mem_filter.mp z).2
    simp only [decide_eq_true_eq] at this
    exact this ha
  have le : ExtN (hide O H) (hide (O.filter (fun a => decide (a ∉ F i))) H) := hide_sub H sub
  refine ⟨O.filter (fun a => decide (a ∉ F i)), ⟨s.tab, s.gnd, fun a ha => List.mem_filter.mpr ⟨s.sub a ha, decide_eq_true fun e => (h4 a e).2 ha⟩, s.hid.sub sub, fun a ha => s.fre a (sub a ha), s.ntb, by rw [List.length_set, s.len], fun j e h => ?_, fun j es h => ?_, fun j k q dj dk e1 e2 e3 e4 => ?_, ?_⟩, sub⟩
  · rcases getElem?_set_cases h with ⟨rfl, e1⟩ | ⟨hn, h⟩
    · cases e1
      exact ⟨v, h1, h2.rd le (fun a ha => hide_out (np a ha)) ht⟩
    · obtain ⟨v, a1, a2⟩ := s.val j e h
      exact ⟨v, a1, a2.ext le⟩
  · rcases getElem?_set_cases h with ⟨rfl, e1⟩ | ⟨hn, h⟩
    · cases e1
    · obtain ⟨q, us, a1, a2, a3, a4, a5, a6⟩ := s.own j es h
      exact ⟨q, us, a1, List.mem_filter.mpr ⟨a2, decide_eq_true (f3 j i es t q h hi a1)⟩, a3, a4, a5, a6.ext le⟩
  · rcases getElem?_set_cases e1 with ⟨rfl, z⟩ | ⟨hn, e1⟩
    · cases z
    · rcases getElem?_set_cases e2 with ⟨rfl, z⟩ | ⟨hn2, e2⟩
      · cases z
      · exact s.inj j k q dj dk e1 e2 e3 e4
  · have back : ∀ {j : Nat} {t' : Tr}, (ρ.set i (.val d))[j]? = some (.tre t') → j ≠ i ∧ ρ[j]? = some (.tre t') := fun {j t'} q => by
      rcases getElem?_set_cases q with ⟨_, e⟩ | ⟨hn, q⟩
      · cases e
      · exact ⟨hn, q⟩
    refine ⟨F, fun j t' q => ?_, fun j k tj tk n q1 q2 => f2 j k tj tk n (back q1).2 (back q2).2, fun j k ds t' p q1 q2 q3 => ?_⟩
    · obtain ⟨hn, q⟩ := back q
      obtain ⟨u, g1, g2, g3, g4⟩ := f1 j t' q
      exact ⟨u, g1, g2.mono le (fun a _ o ha _ => ha), g3, fun a ha => ⟨List.mem_filter.mpr ⟨(g4 a ha).1, decide_eq_true (f2 j i t' t hn q hi a ha)⟩, (g4 a ha).2⟩⟩
    · rcases getElem?_set_cases q1 with ⟨_, e⟩ | ⟨hn, q1⟩
      · cases e
      · exact f3 j k ds t' p q1 (back q2).2 q3
theorem StS.freeze : ∀ (is : List Nat) {ρ : EnvS} {O : List Addr}, StS C G M O σ ρ H → ∃ O', StS C G M O' σ (freeze is ρ) H ∧ ∀ a ∈ O', a ∈ O
  | [], ρ, O, s => ⟨O, s, fun _ h => h⟩
  | i :: is, ρ, O, s => by
    unfold DL.freeze
    split
    · rename_i ds e
      obtain ⟨O1, s1, u1⟩ := s.freeze1 e
      obtain ⟨O2, s2, u2⟩ := StS.freeze is s1
      exact ⟨O2, s2, fun a ha => u1 a (u2 a ha)⟩
    · rename_i t e
      cases ht : t.toD with
      | none => exact StS.freeze is s
      | some d =>
        obtain ⟨O1, s1, u1⟩ := s.freezeT e ht
        obtain ⟨O2, s2, u2⟩ := StS.freeze is s1
        exact ⟨O2, s2, fun a ha => u1 a (u2 a ha)⟩
    · exact StS.freeze is s
/-- a new list that a slot alone holds -/
theorem StS.setOwn (s : StS C G M O σ ρ H) {i : Nat} {p : Addr} {vs : List V} {ds : List D} (hp : H p = some (.lst vs)) (np : p ∉ O) (ng : G p = none) (z : vs.length ≤ sizeLine) (r : RDs C.K (hide (p :: O) H) vs ds)
    (hv : ∀ (j : Nat) (d : D), ρ[j]? = some (.val d) → ∃ v, σ[j]? = some (some v) ∧ RD C.K (hide (p :: O) H) v d) (hw : ∀ (j : Nat) (es : List D), ρ[j]? = some (.own es) → ∀ q us, σ[j]? = some (some (.ref q)) → H q = some (.lst us) → RDs C.K (hide O H) us es → RDs C.K (hide (p :: O) H) us es)
    (ht : ∃ F : Nat → List Addr, (∀ (i : Nat) (t : Tr), ρ[i]? = some (.tre t) → ∃ v, σ[i]? = some (some v) ∧ TrAt C.K (hide (p :: O) H) H v t (F i) ∧ (F i).Nodup ∧ ∀ a ∈ F i, a ∈ O ∧ a ∉ M) ∧
      (∀ (i j : Nat) (ti tj : Tr), i ≠ j → ρ[i]? = some (.tre ti) → ρ[j]? = some (.tre tj) → ∀ a ∈ F i, a ∉ F j) ∧ ∀ (i j : Nat) (ds : List D) (t : Tr) (p : Addr), ρ[i]? = some (.own ds) → ρ[j]? = some (.tre t) → σ[i]? = some (some (.ref p)) → p ∉ F j) : StS C G M (p :: O) (σ.set i (some (.ref p))) (ρ.set i (.own ds)) H := by
  have hid : HidOk (p :: O) H := s.hid.lst hp
  have nM : p ∉ M := fun h => np (s.sub p h)
  refine ⟨s.tab, s.gnd, fun a ha => List.mem_cons_of_mem _ (s.sub a ha), hid, fun a ha => ?_, s.ntb, by rw [List.length_set, List.length_set, s.len], fun j e h => ?_, fun j es h => ?_, fun j k q dj dk e1 e2 e3 e4 => ?_, ?_⟩
  · rcases List.mem_cons.mp ha with rfl | ha
    · exact .inr ng
    · exact s.fre a ha
  · rcases getElem?_set_cases h with ⟨rfl, e1⟩ | ⟨hn, h⟩
    · cases e1
    · rw [List.getElem?_set_ne (Ne.symm hn)]; exact hv j e h
  · rcases getElem?_set_cases h with ⟨rfl, e1⟩ | ⟨hn, h⟩
    · cases e1
      have hl : j < ρ.length := by
        rcases Nat.lt_or_ge j ρ.length with z | z
        · exact z
        · rw [List.getElem?_eq_none (by rw [List.length_set]; omega)] at h; cases h
      exact ⟨p, vs, List.getElem?_set_self (by rw [s.len]; exact hl), List.mem_cons_self, nM, hp, z, r⟩
    · rw [List.getElem?_set_ne (Ne.symm hn)]
      obtain ⟨q, us, a1, a2, a3, a4, a5, a6⟩ := s.own j es h
      exact ⟨q, us, a1, List.mem_cons_of_mem _ a2, a3, a4, a5, hw j es h q us a1 a4 a6⟩
  · have notp : ∀ (j : Nat) (dj : List D), ρ[j]? = some (.own dj) → σ[j]? ≠ some (some (.ref p)) := fun j dj h e => by
      obtain ⟨q, us, a1, a2, _⟩ := s.own j dj h
      rw [a1] at e
      cases e
      exact np a2
    rcases getElem?_set_cases e1 with ⟨rfl, _⟩ | ⟨hn, e1'⟩
    · rcases getElem?_set_cases e2 with ⟨rfl, _⟩ | ⟨hn2, e2⟩
      · rfl
      · rcases getElem?_set_cases e3 with ⟨_, z3⟩ | ⟨z, _⟩
        · cases z3
          rw [List.getElem?_set_ne (Ne.symm hn2)] at e4
          exact absurd e4 (notp k dk e2)
        · exact absurd rfl z
    · rw [List.getElem?_set_ne (Ne.symm hn)] at e3
      rcases getElem?_set_cases e2 with ⟨rfl, _⟩ | ⟨hn2, e2⟩
      · rcases getElem?_set_cases e4 with ⟨_, z4⟩ | ⟨z, _⟩
        · cases z4
          exact absurd e3 (notp _ _ e1')
        · exact absurd rfl z
      · rw [List.getElem?_set_ne (Ne.symm hn2)] at e4
        exact s.inj j k q dj dk e1' e2 e3 e4
  · obtain ⟨F, f1, f2, f3⟩ := ht
    have back : ∀ {j : Nat} {t : Tr}, (ρ.set i (.own ds))[j]? = some (.tre t) → j ≠ i ∧ ρ[j]? = some (.tre t) := fun {j t} q => by
      rcases getElem?_set_cases q with ⟨_, e⟩ | ⟨hn, q⟩
      · cases e
      · exact ⟨hn, q⟩
    refine ⟨F, fun j t q => ?_, fun j k tj tk n q1 q2 => f2 j k tj tk n (back q1).2 (back q2).2, fun j k es t q q1 q2 q3 => ?_⟩
    · obtain ⟨hn, q⟩ := back q
      rw [List.getElem?_set_ne (Ne.symm hn)]
      obtain ⟨v, g1, g2, g3, g4⟩ := f1 j t q
      exact ⟨v, g1, g2, g3, fun a ha => ⟨List.mem_cons_of_mem _ (g4 a ha).1, (g4 a ha).2⟩⟩
    · obtain ⟨hk, q2⟩ := back q2
      obtain ⟨_, _, _, _, g4⟩ := f1 k t q2
      rcases getElem?_set_cases q1 with ⟨rfl, e⟩ | ⟨hn, q1⟩
      · rcases getElem?_set_cases q3 with ⟨_, z⟩ | ⟨z, _⟩
        · cases z
          exact fun w => np (g4 _ w).1
        · exact absurd rfl z
      · rw [List.getElem?_set_ne (Ne.symm hn)] at q3
        exact f3 j k es t q q1 q2 q3
end
/-! what is wanted behind a statement -/
def aftS (C : DC) (G : Hp) (M : List Addr) (r : Out) (D : Ends) : Prop := match r with
  | .next ρ => ∀ O σ H, StS C G M O σ ρ H → D.nx σ H
  | .brk ρ => ∀ O σ H, StS C G M O σ ρ H → D.bk σ H
  | .cont ρ => ∀ O σ H, StS C G M O σ ρ H → D.ct σ H
  | .ret d => ∀ v H, Tabs C.T H → ExtN G H → RD C.K (hide M H) v d → D.rt v H
  | .exc c => ∀ H, Tabs C.T H → ExtN G H → C.E (.ref (He.ga C.K c)) none H
  | .stk => False
def tS (C : DC) (m : EnvS → Out) : TS := fun D σ H => ∃ G M O ρ, StS C G M O σ ρ H ∧ aftS C G M (m ρ) D
section
variable {X : Cx} {T : List (Addr × Str)} {E : XK} {st : Stmt} {rest : List Stmt} {e : Expr} {pos : Pos} {m m' : EnvS → Out} {me : EnvD → Res D} {mt : EnvD → Res Bool}
def sNil : EnvS → Out := fun ρ => .next ρ
def sSeq (a b : EnvS → Out) : EnvS → Out := fun ρ => match a ρ with
  | .next ρ' => b ρ'
  | r => r
theorem q_nil : PSs X [] (tS (dc X T E) sNil) := pss_imp pss_nil fun D σ H ⟨G, M, O, ρ, s, h⟩ => h O σ H s
theorem q_cons (h1 : PS X st (tS (dc X T E) m)) (h2 : PSs X rest (tS (dc X T E) m')) : PSs X (st :: rest) (tS (dc X T E) (sSeq m m')) := pss_imp (pss_cons h1 h2) fun D σ H ⟨G, M, O, ρ, s, h⟩ => by
  refine ⟨G, M, O, ρ, s, ?_⟩
  unfold sSeq at h
  split at h
  · rename_i ρ' e
    rw [e]
    exact fun O' σ' H' s' => ⟨G, M, O', ρ', s', h⟩
  · rename_i hn
    cases e : m ρ with
    | next ρ' => exact absurd e (hn ρ')
    | _ => rw [e] at h; exact h
theorem q_one (h1 : PS X st (tS (dc X T E) m)) : PSs X [st] (tS (dc X T E) m) := pss_one h1
def sPass : EnvS → Out := fun ρ => .next ρ
def sBrk : EnvS → Out := fun ρ => .brk ρ
def sCont : EnvS → Out := fun ρ => .cont ρ
theorem q_pass : PS X (.Pass pos) (tS (dc X T E) sPass) := ps_imp ps_pass fun D σ H ⟨G, M, O, ρ, s, h⟩ => h O σ H s
theorem q_break : PS X (.Break pos) (tS (dc X T E) sBrk) := ps_imp ps_break fun D σ H ⟨G, M, O, ρ, s, h⟩ => h O σ H s
theorem q_cont : PS X (.Continue pos) (tS (dc X T E) sCont) := ps_imp ps_continue fun D σ H ⟨G, M, O, ρ, s, h⟩ => h O σ H s
def sNever : EnvS → Out := fun _ => .stk
theorem q_never : PS X st (tS (dc X T E) sNever) := ps_imp ps_never fun D σ H ⟨G, M, O, ρ, s, h⟩ => h
theorem aftS_exc {C : DC} {G H : Hp} {M O : List Addr} {σ : L2.St} {ρ : EnvS} {c : String} {D : Ends} (s : StS C G M O σ ρ H) (h : aftS C G M (.exc c) D) : ∀ H', ExtT C H H' → C.E (.ref (He.ga C.K c)) none H' := fun H' e => h H' e.tab (s.gnd.trans e.old)
/-! an expression's value is dropped -/
def sDrop (vs : List Nat) (me : EnvD → Res D) : EnvS → Out := fun ρ => match me (vis (freeze vs ρ)) with
  | .ok _ => .next ρ
  | .exc c => .exc c
  | .stk => .stk
theorem q_drop (vs : List Nat) (he : PE X e (tD (dc X T E) me)) (hs : swapsWith e none pos.line X.env = pure false := by rfl) : PS X (.Expr e pos) (tS (dc X T E) (sDrop vs me)) := ps_imp (ps_expr he hs) fun D σ H ⟨G, M, O, ρ, s, h⟩ => by
  obtain ⟨O1, s1, u1⟩ := s.freeze vs
  refine ⟨O1, _, s1.toE, ?_⟩
  unfold sDrop at h
  cases q : me (vis (freeze vs ρ)) with
  | ok d => rw [q] at h; exact fun v H' e r => h O σ H' (s.ext e)
  | exc c => rw [q] at h; exact aftS_exc s h
  | stk => rw [q] at h; exact h
/-! if -/
def sIf (vs : List Nat) (mt : EnvD → Res Bool) (a b : EnvS → Out) : EnvS → Out := fun ρ => match mt (vis (freeze vs ρ)) with
  | .ok k => if k = true then a ρ else b ρ
  | .exc c => .exc c
  | .stk => .stk
theorem q_if (vs : List Nat) {c : Expr} {sa sb : List Stmt} (hc : PT X c (tTD (dc X T E) mt)) (ha : PSs X sa (tS (dc X T E) m)) (hb : PSs X sb (tS (dc X T E) m')) : PS X (.If c sa sb pos) (tS (dc X T E) (sIf vs mt m m')) := ps_imp (ps_if hc ha hb) fun D σ H ⟨G, M, O, ρ, s, h⟩ => by
  obtain ⟨O1, s1, u1⟩ := s.freeze vs
  refine ⟨O1, _, s1.toE, ?_⟩
  unfold sIf at h
  cases q : mt (vis (freeze vs ρ)) with
  | ok k =>
    rw [q] at h
    intro k' H' e r
    have e1 : k' = k := r
    subst e1
    cases k' with
    | true => exact ⟨G, M, O, ρ, s.ext e, h⟩
    | false => exact ⟨G, M, O, ρ, s.ext e, h⟩
  | exc c => rw [q] at h; exact aftS_exc s h
  | stk => rw [q] at h; exact h
/-! return -/
def sRet (vs : List Nat) (me : EnvD → Res D) : EnvS → Out := fun ρ => match me (vis (freeze vs ρ)) with
  | .ok d => .ret d
  | .exc c => .exc c
  | .stk => .stk
theorem q_ret (vs : List Nat) (he : PE X e (tD (dc X T E) me)) : PS X (.Return (some e) pos) (tS (dc X T E) (sRet vs me)) := ps_imp (ps_ret he) fun D σ H ⟨G, M, O, ρ, s, h⟩ => by
  obtain ⟨O1, s1, u1⟩ := s.freeze vs
  refine ⟨O1, _, s1.toE, ?_⟩
  unfold sRet at h
  cases q : me (vis (freeze vs ρ)) with
  | ok d => rw [q] at h; exact fun v H' e r => h v H' e.tab (s.gnd.trans e.old) (r.ext (hide_sub H' s1.sub))
  | exc c => rw [q] at h; exact aftS_exc s h
  | stk => rw [q] at h; exact h
/-! name = e -/
def sAsg (vs : List Nat) (i : Nat) (me : EnvD → Res D) : EnvS → Out := fun ρ => match me (vis (freeze vs ρ)) with
  | .ok d => .next ((if isFlat d = true then ρ else freeze vs ρ).set i (.val d))
  | .exc c => .exc c
  | .stk => .stk
theorem flat_any {K : PySem.W.Frag} {H H' : Hp} {v : V} {d : D} (r : RD K H v d) (h : isFlat d = true) : RD K H' v d := by
  cases d with
  | non => simpa only [RD] using r
  | bl _ => simpa only [RD] using r
  | int _ => simpa only [RD] using r
  | str _ => simpa only [RD] using r
  | _ => cases h
theorem asg_imp (vs : List Nat) (i : Nat) {te : TE} (hte : ∀ σ H Q, tD (dc X T E) me σ H Q → te σ H Q) : ∀ D σ H, tS (dc X T E) (sAsg vs i me) D σ H → tAsg te (gName i) D σ H := fun D σ H ⟨G, M, O, ρ, s, h⟩ => by
  obtain ⟨O1, s1, u1⟩ := s.freeze vs
  refine hte _ _ _ ⟨O1, _, s1.toE, ?_⟩
  unfold sAsg at h
  cases q : me (vis (freeze vs ρ)) with
  | ok d =>
    rw [q] at h
    intro v H' e r
    by_cases hf : isFlat d = true
    · have h' : aftS (dc X T E) G M (.next ((if isFlat d = true then ρ else freeze vs ρ).set i (.val d))) D := h
      rw [if_pos hf] at h'
      exact h' O _ H' ((s.ext e).setVal (flat_any r hf))
    · have h' : aftS (dc X T E) G M (.next ((if isFlat d = true then ρ else freeze vs ρ).set i (.val d))) D := h
      rw [if_neg hf] at h'
      exact h' O1 _ H' ((s1.ext e).setVal r)
  | exc c => rw [q] at h; exact aftS_exc s h
  | stk => rw [q] at h; exact h
theorem q_asg (vs : List Nat) {i : Nat} {x : Str} {pos' : Pos} (hN : X.N.Nodup) (hi : X.N[i]? = some x) (hx : Loc X.env.scope x) (he : PE X e (tD (dc X T E) me)) (hs : swapsWith e (some (.Name x pos')) pos.line X.env = pure false := by rfl) (hf : X.fn x = true ∨ X.env.scope.names.lookup x = some .local := by first | exact .inl rfl | exact .inr rfl | assumption) :
    PS X (.Assign [.Name x pos'] e pos) (tS (dc X T E) (sAsg vs i me)) := ps_imp (ps_set hN hi hx he hs hf) (asg_imp vs i fun _ _ _ h => h)
/-! fresh lists -/
def aftF (C : DC) (M : List Addr) (H : Hp) (r : Res (List D)) (Q : VK) : Prop := match r with
  | .ok ds => ∀ p vs H', ExtT C H H' → H' p = some (.lst vs) → vs.length ≤ sizeLine → RDs C.K (hide (p :: M) H') vs ds → (∀ b o, H b = some o → (∀ ps, o ≠ .tbl ps) → b ≠ p) → Q (.ref p) H'
  | .exc c => ∀ H', ExtT C H H' → C.E (.ref (He.ga C.K c)) none H'
  | .stk => False
def tF (C : DC) (m : EnvD → Res (List D)) : TE := fun σ H Q => ∃ M ρ, StE C M σ ρ H ∧ aftF C M H (m ρ) Q
def mOfL (m : EnvD → Res (List D)) : EnvD → Res D := fun ρ => (m ρ).bind fun ds => .ok (.lst ds)
/-- a fresh list as any datum -/
theorem fresh_imp {ml : EnvD → Res (List D)} : ∀ σ H Q, tD (dc X T E) (mOfL ml) σ H Q → tF (dc X T E) ml σ H Q := fun σ H Q ⟨M, ρ, st, q⟩ => by
  refine ⟨M, ρ, st, ?_⟩
  unfold mOfL at q
  cases e : ml ρ with
  | ok ds =>
    rw [e] at q
    intro p vs H' ex hp z r n
    refine q _ H' ex ?_
    simp only [RD]
    exact ⟨p, vs, rfl, by rw [hide_out (fun w => let ⟨o, h1, h2⟩ := st.hid.at_ p w; n p o h1 h2 rfl)]; exact hp, z, r.ext (hide_sub H' fun a ha => List.mem_cons_of_mem _ ha)⟩
  | exc c => rw [e] at q; exact q
  | stk => rw [e] at q; exact q
theorem d_fresh {ml : EnvD → Res (List D)} (h : PE X e (tF (dc X T E) ml)) : PE X e (tD (dc X T E) (mOfL ml)) := pe_imp h fresh_imp
def fLst (r : EnvD → Res (List D)) : EnvD → Res (List D) := fun ρ => (r ρ).bind fun ds => if ds.length ≤ LIM then .ok ds else .stk
theorem f_lst {es : List Expr} {r : EnvD → Res (List D)} (h : PA X es (tAD (dc X T E) r)) : PE X (.List es pos) (tF (dc X T E) (fLst r)) := pe_imp (pe_lst h) fun σ H Q ⟨M, ρ, st, q⟩ => by
  refine ⟨M, ρ, st, ?_⟩
  unfold fLst at q
  cases e : r ρ with
  | ok ds =>
    rw [e] at q
    by_cases hl : ds.length ≤ LIM
    · have q' : aftF (dc X T E) M H (if ds.length ≤ LIM then .ok ds else .stk) Q := q
      rw [if_pos hl] at q'
      intro vs H1 e1 r1
      have hv : vs.length ≤ sizeLine := by rw [r1.len]; exact lim_le hl
      refine ⟨hv, fun p n => ?_⟩
      refine q' p vs _ (e1.trans (.new e1.tab n)) upd_same hv (r1.ext fun b o hb hn => ?_) fun b o hb hn e2 => ?_
      · obtain ⟨b1, b2⟩ := hide_some hb
        have bp : b ≠ p := ne_of_none b1 n
        rw [hide_out (by simp [bp, b2]), upd_ne bp]; exact b1
      · subst e2
        rw [e1.old _ o hb hn] at n; cases n
    · have q' : aftF (dc X T E) M H (if ds.length ≤ LIM then .ok ds else .stk) Q := q
      rw [if_neg hl] at q'; exact q'.elim
  | exc c => rw [e] at q; exact q
  | stk => rw [e] at q; exact q
end
end DL
namespace DL
open PySem PySem.Spec PyProof.Rows L2 LamX
section
variable {C : DC} {G H H' : Hp} {M O : List Addr} {σ : L2.St} {ρ : EnvS}
/-- what was visible is visible behind a fresh list -/
theorem fresh_le {p : Addr} (e : ExtN H H') (n : ∀ b o, H b = some o → (∀ ps, o ≠ .tbl ps) → b ≠ p) : ExtN (hide O H) (hide (p :: O) H') := fun b o h1 h2 => by
  obtain ⟨a1, a2⟩ := hide_some h1
  rw [hide_out (by simp [n b o a1 h2, a2])]
  exact e b o a1 h2
theorem StS.fresh (s : StS C G M O σ ρ H) {p : Addr} (n : ∀ b o, H b = some o → (∀ ps, o ≠ .tbl ps) → b ≠ p) : p ∉ O ∧ G p = none := by
  refine ⟨fun w => let ⟨o, h1, h2⟩ := s.hid.at_ p w; n p o h1 h2 rfl, ?_⟩
  cases e : G p with
  | none => rfl
  | some o =>
    have t : ∀ ps, o ≠ .tbl ps := fun ps z => s.ntb p ps (by rw [e, z])
    exact absurd rfl (n p o (s.gnd p o e t) t)
theorem StS.own_new (s : StS C G M O σ ρ H) (e : ExtT C H H') {i : Nat} {p : Addr} {vs : List V} {ds : List D} (hp : H' p = some (.lst vs)) (z : vs.length ≤ sizeLine) (r : RDs C.K (hide (p :: O) H') vs ds) (n : ∀ b o, H b = some o → (∀ ps, o ≠ .tbl ps) → b ≠ p) :
    StS C G M (p :: O) (σ.set i (some (.ref p))) (ρ.set i (.own ds)) H' := by
  obtain ⟨np, ng⟩ := s.fresh n
  refine (s.ext e).setOwn hp np ng z r (fun j d h => ?_) (fun j es h q us h1 h2 h3 => ?_) ?_
  · obtain ⟨v, a1, a2⟩ := s.val j d h
    exact ⟨v, a1, a2.ext (fresh_le e.old n)⟩
  · obtain ⟨q', us', a1, a2, a3, a4, a5, a6⟩ := s.own j es h
    rw [a1] at h1; cases h1
    rw [e.old q _ a4 (fun ps z => by cases z)] at h2; cases h2
    exact a6.ext (fresh_le e.old n)
  · obtain ⟨F, f1, f2, f3⟩ := s.trs
    refine ⟨F, fun i t h => ?_, f2, f3⟩
    obtain ⟨v, g1, g2, g3, g4⟩ := f1 i t h
    exact ⟨v, g1, g2.mono (fresh_le e.old n) (fun a _ o ha t => e.old a o ha t), g3, g4⟩
theorem tabs_upd {T : List (Addr × Str)} {p : Addr} {vs us : List V} (t : Tabs T H) (hp : H p = some (.lst vs)) : Tabs T (upd H p (.lst us)) := fun x hx => by
  obtain ⟨ps, h1, h2, h3⟩ := t x hx
  refine ⟨ps, by rw [upd_ne (ne_of h1 hp (fun z => by cases z))]; exact h1, h2, fun pos cv hc => ?_⟩
  obtain ⟨c, e1, e2⟩ := h3 pos cv hc
  exact ⟨c, e1, by rw [upd_ne (ne_of e2 hp (fun z => by unfold CodeO at z; cases z))]; exact e2⟩
theorem hide_upd_in {p : Addr} {o : HO} (h : p ∈ O) : hide O (upd H p o) = hide O H := by
  funext b
  by_cases hb : b ∈ O
  · rw [hide_in hb, hide_in hb]
  · have : b ≠ p := fun e => hb (e ▸ h)
    rw [hide_out hb, hide_out hb, upd_ne this]
/-- a list that a slot alone holds is written -/
theorem StS.write (s : StS C G M O σ ρ H) {i : Nat} {p : Addr} {vs us : List V} {ds es : List D} (hi : ρ[i]? = some (.own ds)) (hp : σ[i]? = some (some (.ref p))) (hl : H p = some (.lst vs)) (z : us.length ≤ sizeLine) (r : RDs C.K (hide O H) us es) :
    StS C G M O σ (ρ.set i (.own es)) (upd H p (.lst us)) := by
  obtain ⟨q, us', h1, h2, h3, h4, h5, h6⟩ := s.own i ds hi
  rw [hp] at h1; cases h1
  rw [hl] at h4; cases h4
  have eh : hide O (upd H p (.lst us)) = hide O H := hide_upd_in h2
  have gp : G p = none := (s.fre p h2).resolve_left h3
  refine ⟨tabs_upd s.tab hl, fun b o e t => ?_, s.sub, ⟨fun a ha => ?_, fun a ha xs q => ?_⟩, s.fre, s.ntb, by rw [List.length_set, s.len], fun j e h => ?_, fun j xs h => ?_, fun j k q dj dk e1 e2 e3 e4 => ?_, ?_⟩
  · have : b ≠ p := fun e2 => by rw [e2, gp] at e; cases e
    rw [upd_ne this]; exact s.gnd b o e t
  · by_cases e : a = p
    · subst e; exact ⟨_, upd_same, fun ps z => by cases z⟩
    · obtain ⟨o, a1, a2⟩ := s.hid.at_ a ha
      exact ⟨o, by rw [upd_ne e]; exact a1, a2⟩
  · by_cases e : a = p
    · subst e; rw [upd_same] at q; cases q
    · rw [upd_ne e] at q; exact s.hid.nt a ha xs q
  · rcases getElem?_set_cases h with ⟨rfl, e1⟩ | ⟨hn, h⟩
    · cases e1
    · rw [eh]; exact s.val j e h
  · rcases getElem?_set_cases h with ⟨rfl, e1⟩ | ⟨hn, h⟩
    · cases e1
      exact ⟨p, us, hp, h2, h3, upd_same, z, by rw [eh]; exact r⟩
    · obtain ⟨q, us2, a1, a2, a3, a4, a5, a6⟩ := s.own j xs h
      refine ⟨q, us2, a1, a2, a3, ?_, a5, by rw [eh]; exact a6⟩
      have : q ≠ p := fun e => hn (s.inj j i p xs ds h hi (e ▸ a1) hp)
      rw [upd_ne this]; exact a4
  · have back : ∀ {j : Nat} {dj : List D}, (ρ.set i (.own es))[j]? = some (.own dj) → ∃ dj', ρ[j]? = some (.own dj') := fun {j dj} h => by
      rcases getElem?_set_cases h with ⟨rfl, _⟩ | ⟨_, h⟩
      · exact ⟨_, hi⟩
      · exact ⟨_, h⟩
    obtain ⟨dj', b1⟩ := back e1
    obtain ⟨dk', b2⟩ := back e2
    exact s.inj j k q dj' dk' b1 b2 e3 e4
  · obtain ⟨F, f1, f2, f3⟩ := s.trs
    have back : ∀ {j : Nat} {t : Tr}, (ρ.set i (.own es))[j]? = some (.tre t) → ρ[j]? = some (.tre t) := fun {j t} q => by
      rcases getElem?_set_cases q with ⟨_, e⟩ | ⟨hn, q⟩
      · cases e
      · exact q
    refine ⟨F, fun j t q => ?_, fun j k tj tk n q1 q2 => f2 j k tj tk n (back q1) (back q2), fun j k xs t q q1 q2 q3 => ?_⟩
    · have q := back q
      obtain ⟨v, g1, g2, g3, g4⟩ := f1 j t q
      refine ⟨v, g1, g2.mono (by rw [eh]; exact fun b o h _ => h) (fun a ha o h _ => ?_), g3, g4⟩
      have np : a ≠ p := fun e => f3 i j ds t p hi q hp (by rw [← e]; exact ha)
      rw [upd_ne np]; exact h
    · rcases getElem?_set_cases q1 with ⟨rfl, _⟩ | ⟨hn, q1⟩
      · exact f3 j k ds t q hi (back q2) q3
      · exact f3 j k xs t q q1 (back q2) q3
end
section
variable {X : Cx} {T : List (Addr × Str)} {E : XK} {e : Expr} {pos : Pos} {me : EnvD → Res D} {ml : EnvD → Res (List D)}
/-! name = a fresh list that the slot alone holds -/
def sOwn (vs : List Nat) (i : Nat) (ml : EnvD → Res (List D)) : EnvS → Out := fun ρ => match ml (vis (freeze vs ρ)) with
  | .ok ds => .next ((if ds.all isFlat = true then ρ else freeze vs ρ).set i (.own ds))
  | .exc c => .exc c
  | .stk => .stk
theorem flats_any {K : PySem.W.Frag} {H H' : Hp} : ∀ {vs : List V} {ds : List D}, RDs K H vs ds → ds.all isFlat = true → RDs K H' vs ds
  | vs, [], r, _ => by simpa only [RDs] using r
  | vs, d :: ds, r, h => by
    simp only [RDs] at r ⊢
    obtain ⟨v, r', rfl, h2, h3⟩ := r
    rw [List.all_cons, Bool.and_eq_true] at h
    exact ⟨v, r', rfl, flat_any h2 h.1, flats_any h3 h.2⟩
theorem own_imp (vs : List Nat) (i : Nat) {te : TE} (hte : ∀ σ H Q, tF (dc X T E) ml σ H Q → te σ H Q) : ∀ D σ H, tS (dc X T E) (sOwn vs i ml) D σ H → tAsg te (gName i) D σ H := fun D σ H ⟨G, M, O, ρ, s, h⟩ => by
  obtain ⟨O1, s1, u1⟩ := s.freeze vs
  refine hte _ _ _ ⟨O1, _, s1.toE, ?_⟩
  unfold sOwn at h
  cases q : ml (vis (freeze vs ρ)) with
  | ok ds =>
    rw [q] at h
    intro p us H' e hp z r n
    have h' : aftS (dc X T E) G M (.next ((if ds.all isFlat = true then ρ else freeze vs ρ).set i (.own ds))) D := h
    by_cases hf : ds.all isFlat = true
    · rw [if_pos hf] at h'
      exact h' _ _ H' (s.own_new e hp z (flats_any r hf) n)
    · rw [if_neg hf] at h'
      exact h' _ _ H' (s1.own_new e hp z r n)
  | exc c => rw [q] at h; exact aftS_exc s h
  | stk => rw [q] at h; exact h
theorem q_own (vs : List Nat) {i : Nat} {x : Str} {pos' : Pos} (hN : X.N.Nodup) (hi : X.N[i]? = some x) (hx : Loc X.env.scope x) (he : PE X e (tF (dc X T E) ml)) (hs : swapsWith e (some (.Name x pos')) pos.line X.env = pure false := by rfl) (hf : X.fn x = true ∨ X.env.scope.names.lookup x = some .local := by first | exact .inl rfl | exact .inr rfl | assumption) :
    PS X (.Assign [.Name x pos'] e pos) (tS (dc X T E) (sOwn vs i ml)) := ps_imp (ps_set hN hi hx he hs hf) (own_imp vs i fun _ _ _ h => h)
/-! x.append(e) -/
def sApp (vs : List Nat) (i : Nat) (me : EnvD → Res D) : EnvS → Out := fun ρ => match ρ[i]? with
  | some (.own _) => (match me (vis (freeze vs ρ)) with
    | .ok d => (match (if isFlat d = true then ρ else freeze vs ρ)[i]? with
      | some (.own ds) => if ds.length < LIM then .next ((if isFlat d = true then ρ else freeze vs ρ).set i (.own (ds ++ [d]))) else .stk
      | _ => .stk)
    | .exc c => .exc c
    | .stk => .stk)
  | _ => .stk
theorem q_app (vs : List Nat) {i : Nat} {o : Expr} {apos cpos : Pos} (ho : PE X o (tVar i)) (he : PE X e (tD (dc X T E) me)) (hs : swapsWith (.Call (.Attribute o "append" apos) [e] [] cpos) none pos.line X.env = pure false := by rfl) (hbase : attributeBase o "append" X.env (eval o X.env) = eval o X.env := by rfl)
    (hfew : ((backTo cpos (starEach [e] X.env)).all (fun x => !x.1) && (backToKw cpos (keywordEach [] X.env)).all (fun x => x.1.isSome) && decide ([e].length + ([] : List Keyword).length + (if ([] : List Keyword).isEmpty then 0 else 1) < 30)) = true := by rfl)
    (hline : (apos.endLine == cpos.line) = true := by rfl) (hse : starEach [e] X.env = (false, eval e X.env) :: starEach [] X.env := by rfl) (hplain : (backTo cpos (starEach [] X.env)).any (·.1) = false := by rfl) :
    PS X (.Expr (.Call (.Attribute o "append" apos) [e] [] cpos) pos) (tS (dc X T E) (sApp vs i me)) :=
  ps_imp (ps_expr (pe_bm PySem.F.plainAttrs_list PySem.F.slot_list_append PySem.F.type_list_append mt_append ho (pa_cons he pa_nil hse) hbase hfew hline hse hplain) hs) fun D σ H ⟨G, M, O, ρ, s, h⟩ => by
    unfold sApp at h
    cases e0 : ρ[i]? with
    | none => rw [e0] at h; exact h.elim
    | some sl =>
      rw [e0] at h
      cases sl with
      | no => exact h.elim
      | val _ => exact h.elim
      | tre _ => exact h.elim
      | own ds0 =>
        obtain ⟨p, ws, h1, h2, h3, h4, h5, h6⟩ := s.own i ds0 e0
        refine ⟨.ref p, h1, .inl ⟨rfl, _, .of h4⟩, ?_⟩
        obtain ⟨O1, s1, u1⟩ := s.freeze vs
        refine ⟨O1, _, s1.toE, ?_⟩
        cases q : me (vis (freeze vs ρ)) with
        | exc c => simp only [q] at h; exact aftS_exc s h
        | stk => simp only [q] at h; exact h
        | ok d =>
          simp only [q] at h
          intro v H' e r
          have go : ∀ {O2 : List Addr} {ρ2 : EnvS}, StS (dc X T E) G M O2 σ ρ2 H' → RD X.K (hide O2 H') v d → aftS (dc X T E) G M (match ρ2[i]? with
              | some (.own ds) => if ds.length < LIM then .next (ρ2.set i (.own (ds ++ [d]))) else .stk
              | _ => .stk) D → tNil σ H' (fun xs H2 => rAppend (.ref p) (v :: xs) H2 fun _ H3 => D.nx σ H3) := fun {O2 ρ2} s2 r2 h' => by
            cases e2 : ρ2[i]? with
            | none => rw [e2] at h'; exact h'.elim
            | some sl =>
              rw [e2] at h'
              cases sl with
              | no => exact h'.elim
              | val _ => exact h'.elim
              | tre _ => exact h'.elim
              | own ds =>
                obtain ⟨p', us, a1, a2, a3, a4, a5, a6⟩ := s2.own i ds e2
                rw [h1] at a1; cases a1
                have h'' : aftS (dc X T E) G M (if ds.length < LIM then .next (ρ2.set i (.own (ds ++ [d]))) else .stk) D := h'
                by_cases hl : ds.length < LIM
                · rw [if_pos hl] at h''
                  have hz : us.length + 1 ≤ LIM := by rw [a6.len]; exact hl
                  refine ⟨p, us, v, rfl, rfl, a4, Nat.lt_of_lt_of_le (Nat.lt_succ_self _) (lim_le hz), h'' O2 σ _ (s2.write e2 h1 a4 ?_ (a6.append (.one r2)))⟩
                  rw [List.length_append]; exact lim_le hz
                · rw [if_neg hl] at h''; exact h''.elim
          by_cases hf : isFlat d = true
          · simp only [if_pos hf] at h
            exact go (s.ext e) (flat_any r hf) h
          · simp only [if_neg hf] at h
            exact go (s1.ext e) r h
/-! x.extend(e) -/
def sExt (vs : List Nat) (i : Nat) (me : EnvD → Res D) : EnvS → Out := fun ρ => match ρ[i]? with
  | some (.own _) => (match me (vis (freeze vs ρ)) with
    | .ok (.lst es) => (match (freeze vs ρ)[i]? with
      | some (.own ds) => if ds.length + es.length ≤ LIM then .next ((freeze vs ρ).set i (.own (ds ++ es))) else .stk
      | _ => .stk)
    | .exc c => .exc c
    | _ => .stk)
  | _ => .stk
theorem q_ext (vs : List Nat) {i : Nat} {o : Expr} {apos cpos : Pos} (ho : PE X o (tVar i)) (he : PE X e (tD (dc X T E) me)) (hs : swapsWith (.Call (.Attribute o "extend" apos) [e] [] cpos) none pos.line X.env = pure false := by rfl) (hbase : attributeBase o "extend" X.env (eval o X.env) = eval o X.env := by rfl)
    (hfew : ((backTo cpos (starEach [e] X.env)).all (fun x => !x.1) && (backToKw cpos (keywordEach [] X.env)).all (fun x => x.1.isSome) && decide ([e].length + ([] : List Keyword).length + (if ([] : List Keyword).isEmpty then 0 else 1) < 30)) = true := by rfl)
    (hline : (apos.endLine == cpos.line) = true := by rfl) (hse : starEach [e] X.env = (false, eval e X.env) :: starEach [] X.env := by rfl) (hplain : (backTo cpos (starEach [] X.env)).any (·.1) = false := by rfl) :
    PS X (.Expr (.Call (.Attribute o "extend" apos) [e] [] cpos) pos) (tS (dc X T E) (sExt vs i me)) :=
  ps_imp (ps_expr (pe_bm PySem.F.plainAttrs_list PySem.F.slot_list_extend PySem.F.type_list_extend mt_extend ho (pa_cons he pa_nil hse) hbase hfew hline hse hplain) hs) fun D σ H ⟨G, M, O, ρ, s, h⟩ => by
    unfold sExt at h
    cases e0 : ρ[i]? with
    | none => rw [e0] at h; exact h.elim
    | some sl =>
      rw [e0] at h
      cases sl with
      | no => exact h.elim
      | val _ => exact h.elim
      | tre _ => exact h.elim
      | own ds0 =>
        obtain ⟨p, ws, h1, h2, h3, h4, h5, h6⟩ := s.own i ds0 e0
        refine ⟨.ref p, h1, .inl ⟨rfl, _, .of h4⟩, ?_⟩
        obtain ⟨O1, s1, u1⟩ := s.freeze vs
        refine ⟨O1, _, s1.toE, ?_⟩
        cases q : me (vis (freeze vs ρ)) with
        | exc c => simp only [q] at h; exact aftS_exc s h
        | stk => simp only [q] at h; exact h
        | ok d =>
          cases d with
          | lst es =>
            simp only [q] at h
            intro v H' e r
            simp only [RD] at r
            obtain ⟨b, zs, rfl, hb, hz, hr⟩ := r
            have s2 := s1.ext e
            cases e2 : (freeze vs ρ)[i]? with
            | none => rw [e2] at h; exact h.elim
            | some sl =>
              rw [e2] at h
              cases sl with
              | no => exact h.elim
              | val _ => exact h.elim
              | tre _ => exact h.elim
              | own ds =>
                obtain ⟨p', us, a1, a2, a3, a4, a5, a6⟩ := s2.own i ds e2
                rw [h1] at a1; cases a1
                have h'' : aftS (dc X T E) G M (if ds.length + es.length ≤ LIM then .next ((freeze vs ρ).set i (.own (ds ++ es))) else .stk) D := h
                by_cases hl : ds.length + es.length ≤ LIM
                · rw [if_pos hl] at h''
                  have hz2 : us.length + zs.length ≤ sizeLine := by rw [a6.len, hr.len]; exact lim_le hl
                  exact ⟨p, b, us, zs, rfl, rfl, a4, vis_get hb, hz2, h'' O1 σ _ (s2.write e2 h1 a4 (by rw [List.length_append]; exact hz2) (a6.append hr))⟩
                · rw [if_neg hl] at h''; exact h''.elim
          | _ => simp only [q] at h; exact h.elim
end

/-! ## targets -/
inductive Tg where
  | nm (i : Nat) | tp (gs : List Tg)
mutual
def bindT : Tg → D → EnvS → Option EnvS
  | .nm i, d, ρ => some (ρ.set i (.val d))
  | .tp gs, d, ρ => match d with
    | .tup ds => bindTs gs ds ρ
    | .lst ds => bindTs gs ds ρ
    | _ => none
def bindTs : List Tg → List D → EnvS → Option EnvS
  | [], [], ρ => some ρ
  | g :: gs, d :: ds, ρ => (bindT g d ρ).bind (bindTs gs ds)
  | _, _, _ => none
end
mutual
def Tg.slots : Tg → List Nat
  | .nm i => [i]
  | .tp gs => slotsL gs
def slotsL : List Tg → List Nat
  | [] => [] | g :: gs => g.slots ++ slotsL gs
end
theorem bindTs_len : ∀ {gs : List Tg} {ds : List D} {ρ ρ' : EnvS}, bindTs gs ds ρ = some ρ' → ds.length = gs.length
  | [], [], _, _, _ => rfl
  | [], _ :: _, _, _, h => by simp [bindTs] at h
  | _ :: _, [], _, _, h => by simp [bindTs] at h
  | g :: gs, d :: ds, ρ, ρ', h => by
    simp only [bindTs, Option.bind_eq_some_iff] at h
    obtain ⟨ρ1, _, h2⟩ := h
    simp [bindTs_len h2]
/-- the slots outside is are as they were -/
def Agree (is : List Nat) (σ σ' : L2.St) : Prop := σ'.length = σ.length ∧ ∀ j, j ∉ is → σ'[j]? = σ[j]?
def tgD (C : DC) (g : Tg) : TG := fun v σ H Q => ∃ G M O ρ d, StS C G M O σ ρ H ∧ RD C.K (hide O H) v d ∧ match bindT g d ρ with
  | some ρ' => ∀ σ', StS C G M O σ' ρ' H → Agree g.slots σ σ' → Q σ' H
  | none => False
def tgsD (C : DC) (gs : List Tg) : TGs := fun vs σ H Q => ∃ G M O ρ ds, StS C G M O σ ρ H ∧ RDs C.K (hide O H) vs ds ∧ match bindTs gs ds ρ with
  | some ρ' => ∀ σ', StS C G M O σ' ρ' H → Agree (slotsL gs) σ σ' → Q σ' H
  | none => False
section
variable {X : Cx} {T : List (Addr × Str)} {E : XK} {pos : Pos}
theorem pg_imp {e : Expr} {t t' : TG} (h : PG X e t) (i : ∀ v σ H Q, t' v σ H Q → t v σ H Q) : PG X e t' := ⟨fun pins s σ H v u Q I r q => h.run pins s σ H v u Q I r (i v σ H Q q)⟩
theorem pgs_imp {e : List Expr} {t t' : TGs} (h : PGs X e t) (i : ∀ v σ H Q, t' v σ H Q → t v σ H Q) : PGs X e t' := ⟨fun pins s σ H v u Q I r q => h.run pins s σ H v u Q I r (i v σ H Q q)⟩
theorem g_nm {i : Nat} {x : Str} (hN : X.N.Nodup) (hi : X.N[i]? = some x) (hx : Loc X.env.scope x) (hf : X.fn x = true ∨ X.env.scope.names.lookup x = some .local := by first | exact .inl rfl | exact .inr rfl | assumption) : PG X (.Name x pos) (tgD (dc X T E) (.nm i)) :=
  pg_imp (pg_name hN hi hx hf) fun v σ H Q ⟨G, M, O, ρ, d, s, r, h⟩ => by
    simp only [bindT] at h
    refine h _ (s.setVal r) ⟨List.length_set .., fun j hj => ?_⟩
    rw [List.getElem?_set_ne fun e => hj (by simp [Tg.slots, e])]
theorem gs_nil : PGs X [] (tgsD (dc X T E) []) := pgs_imp pgs_nil fun vs σ H Q ⟨G, M, O, ρ, ds, s, r, h⟩ => by
  cases ds with
  | nil => simp only [RDs] at r; subst r; simp only [bindTs] at h; exact ⟨rfl, h σ s ⟨rfl, fun _ _ => rfl⟩⟩
  | cons d ds => simp only [bindTs] at h
theorem gs_cons {e : Expr} {es : List Expr} {g : Tg} {gs : List Tg} (h1 : PG X e (tgD (dc X T E) g)) (h2 : PGs X es (tgsD (dc X T E) gs)) (hs : (assignEach (e :: es) X.env).map (·.2) = assign e X.env :: (assignEach es X.env).map (·.2) := by rfl) :
    PGs X (e :: es) (tgsD (dc X T E) (g :: gs)) := pgs_imp (pgs_cons h1 h2 hs) fun vs σ H Q ⟨G, M, O, ρ, ds, s, r, h⟩ => by
  cases ds with
  | nil => simp only [bindTs] at h
  | cons d ds =>
    simp only [RDs] at r
    obtain ⟨v, r', rfl, r1, r2⟩ := r
    simp only [bindTs] at h
    refine ⟨v, r', rfl, G, M, O, ρ, d, s, r1, ?_⟩
    cases e1 : bindT g d ρ with
    | none => rw [e1] at h; exact h
    | some ρ1 =>
      rw [e1] at h
      intro σ1 s1 a1
      refine ⟨G, M, O, ρ1, ds, s1, r2, ?_⟩
      have h' : match bindTs gs ds ρ1 with
        | some ρ' => ∀ σ', StS (dc X T E) G M O σ' ρ' H → Agree (slotsL (g :: gs)) σ σ' → Q σ' H
        | none => False := h
      cases e2 : bindTs gs ds ρ1 with
      | none => rw [e2] at h'; exact h'
      | some ρ2 =>
        rw [e2] at h'
        intro σ2 s2 a2
        refine h' σ2 s2 ⟨a2.1.trans a1.1, fun j hj => ?_⟩
        simp only [slotsL, List.mem_append, not_or] at hj
        rw [a2.2 j hj.2, a1.2 j hj.1]
theorem pg_or {e : Expr} {t t' : TG} (h : PG X e t) (h' : PG X e t') : PG X e (fun v σ H Q => t v σ H Q ∨ t' v σ H Q) := ⟨fun pins s σ H v u Q I r q => q.elim (h.run pins s σ H v u Q I r) (h'.run pins s σ H v u Q I r)⟩
theorem g_tp {es : List Expr} {k : Nat} {gs : List Tg} (hc : X.calm = true) (h : PGs X es (tgsD (dc X T E) gs)) (hn : (assignEach es X.env).length = gs.length := by rfl) (hst : (assignEach es X.env).findIdx? (·.1) = none := by rfl) :
    PG X (.Tuple es k pos) (tgD (dc X T E) (.tp gs)) := pg_imp (pg_or (pg_tup hc h hn hst) (pg_lst hc h hn hst)) fun v σ H Q ⟨G, M, O, ρ, d, s, r, h⟩ => by
  cases d with
  | tup ds =>
    simp only [RD] at r
    obtain ⟨a, vs, rfl, ht, hz, hr⟩ := r
    simp only [bindT] at h
    cases e : bindTs gs ds ρ with
    | none => rw [e] at h; exact h.elim
    | some ρ' =>
      rw [e] at h
      refine .inl ⟨a, vs, rfl, vis_sqT ht, by rw [hr.len]; exact bindTs_len e, G, M, O, ρ, ds, s, hr, ?_⟩
      rw [e]
      exact fun σ' s' a => h σ' s' (by simpa only [Tg.slots] using a)
  | lst ds =>
    simp only [RD] at r
    obtain ⟨a, vs, rfl, ht, hz, hr⟩ := r
    simp only [bindT] at h
    cases e : bindTs gs ds ρ with
    | none => rw [e] at h; exact h.elim
    | some ρ' =>
      rw [e] at h
      refine .inr ⟨a, vs, rfl, .inl (.inl (vis_get ht)), by rw [hr.len]; exact bindTs_len e, G, M, O, ρ, ds, s, hr, ?_⟩
      rw [e]
      exact fun σ' s' a => h σ' s' (by simpa only [Tg.slots] using a)
  | _ => simp only [bindT] at h
end
end DL
namespace DL
open PySem PySem.Spec PyProof.Rows L2 LamX
/-! ## what is walked -/
/-- J gives the data ds, one behind another, as long as what is visible in Gv stands -/
def IterD (C : DC) (Gv : Hp) (J : It) (ds : List D) : Prop := ds.length ≤ sizeLine ∧ Walk J ds.length (fun H => ExtN Gv H) (fun i H x H' => (Tabs C.T H → ExtT C H H') ∧ ∃ d, ds[i]? = some d ∧ ∀ O, HidOk O H → ExtN Gv (hide O H) → RD C.K (hide O H') x d)
def aftI (C : DC) (M : List Addr) (H : Hp) (r : Res (List D)) (R : It → Hp → Prop) : Prop := match r with
  | .ok ds => ∀ J H', ExtT C H H' → IterD C (hide M H') J ds → R J H'
  | .exc c => ∀ H', ExtT C H H' → C.E (.ref (He.ga C.K c)) none H'
  | .stk => False
def tI (C : DC) (m : EnvD → Res (List D)) : TI := fun σ H R => ∃ M ρ, StE C M σ ρ H ∧ aftI C M H (m ρ) R
theorem aft_toI {α β : Type} {C : DC} {M : List Addr} {H : Hp} {Rel : Hp → β → α → Prop} {x : Res α} {f : α → Res (List D)} {R : It → Hp → Prop} (h : aftI C M H (x.bind f) R) :
    aft C M H Rel x (fun b H1 => ∃ a, x = .ok a ∧ ExtT C H H1 ∧ Rel (hide M H1) b a ∧ aftI C M H1 (f a) R) := by
  cases x with
  | ok a =>
    intro b H1 e r
    refine ⟨a, rfl, e, r, ?_⟩
    have h' : aftI C M H (f a) R := h
    cases q : f a with
    | ok ds => rw [q] at h'; exact fun J H2 e2 it => h' J H2 (e.trans e2) it
    | exc c => rw [q] at h'; exact fun H2 e2 => h' H2 (e.trans e2)
    | stk => rw [q] at h'; exact h'
  | exc c => exact h
  | stk => exact h
section
variable {X : Cx} {T : List (Addr × Str)} {E : XK} {e : Expr} {tg : Expr} {pos : Pos} {me : EnvD → Res D} {ma : EnvD → Res (List D)}
theorem pi_imp {iter : Expr} {t t' : TI} (h : PI X tg iter t) (i : ∀ σ H R, t' σ H R → t σ H R) : PI X tg iter t' := ⟨fun pins s σ H R I q => h.run pins s σ H R I (i σ H R q)⟩
theorem iter_list {C : DC} {Gv : Hp} {a : Addr} {vs : List V} {ds : List D} (hG : Gv a = some (.lst vs)) (z : vs.length ≤ sizeLine) (r : RDs C.K Gv vs ds) : IterD C Gv (Itl C.K a) ds := by
  refine ⟨by rw [← r.len]; exact z, ?_⟩
  rw [← r.len]
  refine walk_list.mono (fun H h => .of (h a _ hG (fun ps z => by cases z))) fun i H x H' hi hg y => ?_
  obtain ⟨rfl, hx⟩ := y
  refine ⟨fun t => .refl t, ?_⟩
  have hd : i < ds.length := by rw [← r.len]; exact hi
  obtain ⟨v, h1, h2⟩ := r.get (List.getElem?_eq_getElem hd)
  rw [hx] at h1; cases h1
  exact ⟨_, List.getElem?_eq_getElem hd, fun O _ h => h2.ext h⟩
theorem iter_tup {C : DC} {Gv : Hp} {a : Addr} {vs : List V} {ds : List D} (hG : SqT C.K Gv a vs) (z : vs.length ≤ sizeLine) (r : RDs C.K Gv vs ds) : IterD C Gv (Itt C.K a) ds := by
  refine ⟨by rw [← r.len]; exact z, ?_⟩
  rw [← r.len]
  refine walk_tup.mono (fun H h => ext_sqT h hG) fun i H x H' hi hg y => ?_
  obtain ⟨rfl, hx⟩ := y
  refine ⟨fun t => .refl t, ?_⟩
  have hd : i < ds.length := by rw [← r.len]; exact hi
  obtain ⟨v, h1, h2⟩ := r.get (List.getElem?_eq_getElem hd)
  rw [hx] at h1; cases h1
  exact ⟨_, List.getElem?_eq_getElem hd, fun O _ h => h2.ext h⟩
def iterF : D → Res (List D)
  | .lst ds => .ok ds
  | _ => .stk
def iterT : D → Res (List D)
  | .tup ds => .ok ds
  | _ => .stk
def iterS : D → Res (List D)
  | .str s => .ok (s.map fun c => .str [c])
  | _ => .stk
def iOf (f : D → Res (List D)) (me : EnvD → Res D) : EnvD → Res (List D) := fun ρ => (me ρ).bind f
theorem i_list (h : PE X e (tD (dc X T E) me)) : PI X tg e (tI (dc X T E) (iOf iterF me)) := pi_imp (pi_list h) fun σ H R ⟨M, ρ, st, q⟩ => by
  refine ⟨M, ρ, st, (aft_toI (Rel := RD X.K) q).imp fun x H1 ⟨d, _, e1, r1, q1⟩ => ?_⟩
  cases d with
  | lst ds =>
    simp only [RD] at r1
    obtain ⟨a, vs, rfl, hp, hz, hr⟩ := r1
    exact ⟨a, rfl, ⟨vs, .of (vis_get hp)⟩, q1 _ H1 (.refl e1.tab) (iter_list hp hz hr)⟩
  | _ => exact q1.elim
theorem i_tup (h : PE X e (tD (dc X T E) me)) : PI X tg e (tI (dc X T E) (iOf iterT me)) := pi_imp (pi_tup h) fun σ H R ⟨M, ρ, st, q⟩ => by
  refine ⟨M, ρ, st, (aft_toI (Rel := RD X.K) q).imp fun x H1 ⟨d, _, e1, r1, q1⟩ => ?_⟩
  cases d with
  | tup ds =>
    simp only [RD] at r1
    obtain ⟨a, vs, rfl, hp, hz, hr⟩ := r1
    exact ⟨a, rfl, ⟨vs, vis_sqT hp⟩, q1 _ H1 (.refl e1.tab) (iter_tup hp.sq hz hr)⟩
  | _ => exact q1.elim
theorem i_str (h : PE X e (tD (dc X T E) me)) : PI X tg e (tI (dc X T E) (iOf iterS me)) := pi_imp (pi_str h) fun σ H R ⟨M, ρ, st, q⟩ => by
  refine ⟨M, ρ, st, (aft_toI (Rel := RD X.K) q).imp fun x H1 ⟨d, _, e1, r1, q1⟩ => ?_⟩
  cases d with
  | str s =>
    simp only [RD] at r1
    refine ⟨_, r1.1, q1 _ H1 (.refl e1.tab) ⟨by rw [List.length_map]; exact r1.2.1, ?_⟩⟩
    rw [List.length_map]
    have w := walk_str (z := ⟨s.toArray⟩)
    have ez : (⟨s.toArray⟩ : Str).cps.size = s.length := by show s.toArray.size = _; simp
    rw [ez] at w
    refine w.mono (fun _ _ => trivial) fun i H x H' hi hg y => ?_
    obtain ⟨rfl, c, hc, rfl⟩ := y
    have hc' : s[i]? = some c := by simpa using hc
    refine ⟨fun t => .refl t, .str [c], by rw [List.getElem?_map, hc']; rfl, fun O _ _ => ?_⟩
    simp only [RD]
    exact ⟨by simp, by show 1 ≤ sizeLine; rw [sizeLine_eq]; decide, fun z hz => by rw [List.mem_singleton.mp hz]; exact r1.2.2 c (List.mem_of_getElem? hc')⟩
  | _ => exact q1.elim
/-! what hangs on no heap -/
def none0 : Hp := fun _ => none
def aftIR (C : DC) (M : List Addr) (H : Hp) (r : Res (List D)) (R : It → Hp → Prop) : Prop := match r with
  | .ok ds => ∀ J H', ExtT C H H' → IterD C none0 J ds → R J H'
  | .exc c => ∀ H', ExtT C H H' → C.E (.ref (He.ga C.K c)) none H'
  | .stk => False
def tIR (C : DC) (m : EnvD → Res (List D)) : TI := fun σ H R => ∃ M ρ, StE C M σ ρ H ∧ aftIR C M H (m ρ) R
theorem aft_toIR {α β : Type} {C : DC} {M : List Addr} {H : Hp} {Rel : Hp → β → α → Prop} {x : Res α} {f : α → Res (List D)} {R : It → Hp → Prop} (h : aftIR C M H (x.bind f) R) :
    aft C M H Rel x (fun b H1 => ∃ a, x = .ok a ∧ ExtT C H H1 ∧ Rel (hide M H1) b a ∧ aftIR C M H1 (f a) R) := by
  cases x with
  | ok a =>
    intro b H1 e r
    refine ⟨a, rfl, e, r, ?_⟩
    have h' : aftIR C M H (f a) R := h
    cases q : f a with
    | ok ds => rw [q] at h'; exact fun J H2 e2 it => h' J H2 (e.trans e2) it
    | exc c => rw [q] at h'; exact fun H2 e2 => h' H2 (e.trans e2)
    | stk => rw [q] at h'; exact h'
  | exc c => exact h
  | stk => exact h
theorem IterD.mono {C : DC} {Gv : Hp} {J : It} {ds : List D} (h : IterD C none0 J ds) : IterD C Gv J ds :=
  ⟨h.1, h.2.mono (fun _ _ b o z => by cases z) fun i H x H' _ _ ⟨y1, d, y2, y3⟩ => ⟨y1, d, y2, fun O ho _ => y3 O ho fun b o z => by cases z⟩⟩
theorem i_any {e : Expr} {m : EnvD → Res (List D)} (h : PI X tg e (tIR (dc X T E) m)) : PI X tg e (tI (dc X T E) m) := pi_imp h fun σ H R ⟨M, ρ, st, q⟩ => by
  refine ⟨M, ρ, st, ?_⟩
  cases e : m ρ with
  | ok ds => rw [e] at q; exact fun J H' e it => q J H' e it.mono
  | exc c => rw [e] at q; exact q
  | stk => rw [e] at q; exact q
/-! ranges -/
def upTo (lo : Int) (n : Nat) : List D := (List.range n).map fun i => .int (lo + (i : Nat))
def rng1F : List D → Res (List D)
  | [.int j] => if -LIM ≤ j ∧ j ≤ LIM then .ok (upTo 0 j.toNat) else .stk
  | _ => .stk
def rng2F : List D → Res (List D)
  | [.int i, .int j] => if -LIM ≤ i ∧ i ≤ LIM ∧ j ≤ LIM ∧ -LIM ≤ j then .ok (upTo i (j - i).toNat) else .stk
  | _ => .stk
def iOfL (f : List D → Res (List D)) (ma : EnvD → Res (List D)) : EnvD → Res (List D) := fun ρ => (ma ρ).bind f
theorem iter_range {C : DC} {Gv : Hp} {lo : Int} {n : Nat} (h : n ≤ 2 * LIM) : IterD C Gv (Itr lo n) (upTo lo n) := by
  have hl : (upTo lo n).length = n := by unfold upTo; rw [List.length_map, List.length_range]
  refine ⟨by rw [hl, sizeLine_eq]; unfold LIM at h; omega, ?_⟩
  rw [hl]
  refine walk_range.mono (fun _ _ => trivial) fun i H x H' hi hg y => ?_
  obtain ⟨rfl, rfl⟩ := y
  refine ⟨fun t => .refl t, .int (lo + (i : Nat)), ?_, fun O _ _ => by simp only [RD]⟩
  unfold upTo
  rw [List.getElem?_map, List.getElem?_range hi]; rfl
theorem i_range1R {a : Expr} {p : Pos} (hg : Gl X "range") (hm : X.mg "range" = none) (h : PA X [a] (tAD (dc X T E) ma)) (hs : starEach [a] X.env = [(false, eval a X.env)] := by rfl) : PI X tg (.Call (.Name "range" p) [a] [] pos) (tIR (dc X T E) (iOfL rng1F ma)) :=
  pi_imp (pi_range1 hg hm h hs) fun σ H R ⟨M, ρ, st, q⟩ => by
    refine ⟨M, ρ, st, (aft_toIR (Rel := RDs X.K) q).imp fun vs H1 ⟨ds, h0, e1, r1, q1⟩ => ?_⟩
    unfold rng1F at q1
    split at q1
    · rename_i j
      obtain ⟨v, rfl, r2⟩ := rds1 r1
      simp only [RD] at r2
      by_cases hl : -LIM ≤ j ∧ j ≤ LIM
      · rw [if_pos hl] at q1
        unfold LIM at hl
        exact ⟨j, by rw [r2], by omega, by omega, q1 _ H1 (.refl e1.tab) (iter_range (by unfold LIM; omega))⟩
      · rw [if_neg hl] at q1; exact q1.elim
    · exact q1.elim
theorem i_range2R {a b : Expr} {p : Pos} (hg : Gl X "range") (hm : X.mg "range" = none) (h : PA X [a, b] (tAD (dc X T E) ma)) (hs : starEach [a, b] X.env = [(false, eval a X.env), (false, eval b X.env)] := by rfl) (hs2 : starEach [b] X.env = [(false, eval b X.env)] := by rfl) :
    PI X tg (.Call (.Name "range" p) [a, b] [] pos) (tIR (dc X T E) (iOfL rng2F ma)) :=
  pi_imp (pi_range2 hg hm h hs hs2) fun σ H R ⟨M, ρ, st, q⟩ => by
    refine ⟨M, ρ, st, (aft_toIR (Rel := RDs X.K) q).imp fun vs H1 ⟨ds, h0, e1, r1, q1⟩ => ?_⟩
    unfold rng2F at q1
    split at q1
    · rename_i i j
      obtain ⟨v, u, rfl, r2, r3⟩ := rds2 r1
      simp only [RD] at r2 r3
      by_cases hl : -LIM ≤ i ∧ i ≤ LIM ∧ j ≤ LIM ∧ -LIM ≤ j
      · rw [if_pos hl] at q1
        unfold LIM at hl
        exact ⟨i, j, by rw [r2, r3], by omega, q1 _ H1 (.refl e1.tab) (iter_range (by unfold LIM; omega))⟩
      · rw [if_neg hl] at q1; exact q1.elim
    · exact q1.elim
theorem i_range1 {a : Expr} {p : Pos} (hg : Gl X "range") (hm : X.mg "range" = none) (h : PA X [a] (tAD (dc X T E) ma)) (hs : starEach [a] X.env = [(false, eval a X.env)] := by rfl) : PI X tg (.Call (.Name "range" p) [a] [] pos) (tI (dc X T E) (iOfL rng1F ma)) := i_any (i_range1R hg hm h hs)
theorem i_range2 {a b : Expr} {p : Pos} (hg : Gl X "range") (hm : X.mg "range" = none) (h : PA X [a, b] (tAD (dc X T E) ma)) (hs : starEach [a, b] X.env = [(false, eval a X.env), (false, eval b X.env)] := by rfl) (hs2 : starEach [b] X.env = [(false, eval b X.env)] := by rfl) :
    PI X tg (.Call (.Name "range" p) [a, b] [] pos) (tI (dc X T E) (iOfL rng2F ma)) := i_any (i_range2R hg hm h hs hs2)
/-! enumerate, zip -/
def enumFrom (n : Nat) : List D → List D
  | [] => []
  | d :: ds => .tup [.int n, d] :: enumFrom (n + 1) ds
theorem enum_get : ∀ (ds : List D) (n i : Nat), (enumFrom n ds)[i]? = (ds[i]?).map fun d => .tup [.int (n + i : Nat), d]
  | [], n, i => by simp [enumFrom]
  | d :: ds, n, 0 => by simp [enumFrom]
  | d :: ds, n, i + 1 => by
    show (enumFrom (n + 1) ds)[i]? = _
    rw [enum_get ds (n + 1) i]
    simp only [List.getElem?_cons_succ]
    congr 1; funext x; rw [show n + 1 + i = n + (i + 1) by omega]
theorem enum_len : ∀ (ds : List D) (n : Nat), (enumFrom n ds).length = ds.length
  | [], _ => rfl
  | d :: ds, n => by simp [enumFrom, enum_len ds]
def enumF : List D → Res (List D)
  | [.lst ds] => .ok (enumFrom 0 ds)
  | _ => .stk
theorem tup2_rd {K : PySem.W.Frag} {H : Hp} {O : List Addr} {p : Addr} {x y : V} {a b : D} (hid : HidOk O H) (n : H p = none) (ha : RD K (hide O H) x a) (hb : RD K (hide O H) y b) : RD K (hide O (upd H p (.tup [x, y]))) (.ref p) (.tup [a, b]) :=
  rd_tup_new hid n (by show 2 ≤ sizeLine; rw [sizeLine_eq]; decide) (.cons ha (.one hb))
theorem i_enum {elts : List Expr} {kk : Nat} {tpos p : Pos} (hg : Gl X "enumerate") (hm : X.mg "enumerate" = none) (h : PA X [e] (tAD (dc X T E) ma)) (hs : starEach [e] X.env = [(false, eval e X.env)] := by rfl) : PI X (.Tuple elts kk tpos) (.Call (.Name "enumerate" p) [e] [] pos) (tI (dc X T E) (iOfL enumF ma)) :=
  pi_imp (pi_enum hg hm h hs) fun σ H R ⟨M, ρ, st, q⟩ => by
    refine ⟨M, ρ, st, (aft_toI (Rel := RDs X.K) q).imp fun vs H1 ⟨ds, h0, e1, r1, q1⟩ => ?_⟩
    unfold enumF at q1
    split at q1
    · rename_i ds
      obtain ⟨v, rfl, r2⟩ := rds1 r1
      simp only [RD] at r2
      obtain ⟨a, vs, rfl, hp, hz, hr⟩ := r2
      refine ⟨a, vs, rfl, .of (vis_get hp), q1 _ H1 (.refl e1.tab) ⟨by rw [enum_len, ← hr.len]; exact hz, ?_⟩⟩
      rw [enum_len, ← hr.len]
      refine walk_enum.mono (fun H h => .of (h a _ hp (fun ps z => by cases z))) fun i H x H' hi hg y => ?_
      obtain ⟨Tp, x1, x2, rfl, n, rfl, h1, h2⟩ := y
      have hd : i < ds.length := by rw [← hr.len]; exact hi
      obtain ⟨v, g1, g2⟩ := hr.get (List.getElem?_eq_getElem hd)
      have h2' : vs[i]? = some x2 := h2
      have h1' : some (V.int (i : Nat)) = some x1 := h1
      rw [g1] at h2'; cases h2'; cases h1'
      refine ⟨fun t => .new t n, .tup [.int (i : Nat), ds[i]], ?_, fun O hid h => tup2_rd hid n (by simp only [RD]) (g2.ext h)⟩
      rw [enum_get, List.getElem?_eq_getElem hd]
      simp
    · exact q1.elim
def zipD : List D → List D → List D
  | a :: as, b :: bs => .tup [a, b] :: zipD as bs
  | _, _ => []
theorem zipD_len : ∀ (as bs : List D), (zipD as bs).length = min as.length bs.length
  | [], _ => by simp [zipD]
  | _ :: _, [] => by simp [zipD]
  | a :: as, b :: bs => by simp [zipD, zipD_len as bs]
theorem zipD_get : ∀ (as bs : List D) (i : Nat) (a b : D), as[i]? = some a → bs[i]? = some b → (zipD as bs)[i]? = some (.tup [a, b])
  | [], _, _, _, _, h, _ => by simp at h
  | _ :: _, [], _, _, _, _, h => by simp at h
  | a :: as, b :: bs, 0, _, _, h, h' => by simp at h h'; simp [zipD, h, h']
  | a :: as, b :: bs, i + 1, _, _, h, h' => by
    show (zipD as bs)[i]? = _
    exact zipD_get as bs i _ _ (by simpa using h) (by simpa using h')
def zipF : List D → Res (List D)
  | [.lst as, .lst bs] => .ok (zipD as bs)
  | _ => .stk
theorem i_zip {e2 : Expr} {elts : List Expr} {kk : Nat} {tpos p : Pos} (hg : Gl X "zip") (hm : X.mg "zip" = none) (h : PA X [e, e2] (tAD (dc X T E) ma)) (hs : starEach [e, e2] X.env = (false, eval e X.env) :: starEach [e2] X.env := by rfl)
    (hpl : (backTo pos (starEach [e2] X.env)).any (·.1) = false := by rfl) : PI X (.Tuple elts kk tpos) (.Call (.Name "zip" p) [e, e2] [] pos) (tI (dc X T E) (iOfL zipF ma)) :=
  pi_imp (pi_zip hg hm h hs hpl) fun σ H R ⟨M, ρ, st, q⟩ => by
    refine ⟨M, ρ, st, (aft_toI (Rel := RDs X.K) q).imp fun vs H1 ⟨ds, h0, e1, r1, q1⟩ => ?_⟩
    unfold zipF at q1
    split at q1
    · rename_i as bs
      obtain ⟨v, u, rfl, r2, r3⟩ := rds2 r1
      simp only [RD] at r2 r3
      obtain ⟨a, vs, rfl, hp, hz, hr⟩ := r2
      obtain ⟨b, us, rfl, hp2, hz2, hr2⟩ := r3
      refine ⟨a, b, vs, us, rfl, .of (vis_get hp), .of (vis_get hp2), q1 _ H1 (.refl e1.tab) ⟨by rw [zipD_len, ← hr.len]; exact Nat.le_trans (Nat.min_le_left _ _) hz, ?_⟩⟩
      refine (walk_zip (by rw [zipD_len, hr.len, hr2.len])).mono (fun H h => ⟨.of (h a _ hp (fun ps z => by cases z)), .of (h b _ hp2 (fun ps z => by cases z))⟩) fun i H x H' hi hg y => ?_
      obtain ⟨Tp, x1, x2, rfl, n, rfl, h1, h2⟩ := y
      rw [zipD_len] at hi
      have hd : i < as.length := by omega
      have hd2 : i < bs.length := by omega
      obtain ⟨v, g1, g2⟩ := hr.get (List.getElem?_eq_getElem hd)
      obtain ⟨v2, g3, g4⟩ := hr2.get (List.getElem?_eq_getElem hd2)
      have h1' : vs[i]? = some x1 := h1
      have h2' : us[i]? = some x2 := h2
      rw [g1] at h1'; cases h1'
      rw [g3] at h2'; cases h2'
      exact ⟨fun t => .new t n, _, zipD_get as bs i _ _ (List.getElem?_eq_getElem hd) (List.getElem?_eq_getElem hd2), fun O hid h => tup2_rd hid n (g2.ext h) (g4.ext h)⟩
    · exact q1.elim
end
end DL
namespace DL
open PySem PySem.Spec PyProof.Rows L2 LamX
/-! ## loops -/
section
variable {C : DC} {G G2 H H' : Hp} {M O : List Addr} {σ : L2.St} {ρ : EnvS}
/-- a ground that knows more -/
theorem StS.down (s : StS C G2 M O σ ρ H) (e : ExtN G G2) (nt : ∀ a ps, G a ≠ some (.tbl ps)) : StS C G M O σ ρ H := by
  refine ⟨s.tab, e.trans s.gnd, s.sub, s.hid, fun a ha => (s.fre a ha).imp id fun h => ?_, nt, s.len, s.val, s.own, s.inj, s.trs⟩
  cases q : G a with
  | none => rfl
  | some o =>
    rw [e a o q fun ps z => nt a ps (by rw [q, z])] at h
    cases h
theorem aftS.grow {r : Out} {D : Ends} (h : aftS C G M r D) (e : ExtN G G2) (nt : ∀ a ps, G a ≠ some (.tbl ps)) : aftS C G2 M r D := by
  cases r with
  | next ρ => exact fun O σ H s => h O σ H (s.down e nt)
  | brk ρ => exact fun O σ H s => h O σ H (s.down e nt)
  | cont ρ => exact fun O σ H s => h O σ H (s.down e nt)
  | ret d => exact fun v H t e2 r => h v H t (e.trans e2) r
  | exc c => exact fun H t e2 => h H t (e.trans e2)
  | stk => exact h
/-- all that stands and is not held by a slot alone -/
def groundOf (M O : List Addr) (H : Hp) : Hp := fun a => if a ∈ O ∧ a ∉ M then none else match H a with
  | some (.tbl _) => none
  | o => o
theorem groundOf_some {a : Addr} {o : HO} (h : groundOf M O H a = some o) : H a = some o ∧ (a ∈ O → a ∈ M) ∧ ∀ ps, o ≠ .tbl ps := by
  unfold groundOf at h
  by_cases c : a ∈ O ∧ a ∉ M
  · rw [if_pos c] at h; cases h
  · rw [if_neg c] at h
    refine ⟨?_, fun ha => Classical.byContradiction fun hm => c ⟨ha, hm⟩, ?_⟩
    · cases q : H a with
      | none => rw [q] at h; cases h
      | some u => rw [q] at h; cases u <;> first | exact h | cases h
    · cases q : H a with
      | none => rw [q] at h; cases h
      | some u => rw [q] at h; cases u <;> first | (cases h; intro ps z; cases z) | cases h
theorem groundOf_at {a : Addr} {o : HO} (h : H a = some o) (n : ∀ ps, o ≠ .tbl ps) (c : a ∈ O → a ∈ M) : groundOf M O H a = some o := by
  unfold groundOf
  rw [if_neg fun z => z.2 (c z.1), h]
  cases o <;> first | rfl | exact absurd rfl (n _)
theorem StS.ground (s : StS C G M O σ ρ H) : StS C (groundOf M O H) M O σ ρ H ∧ ExtN G (groundOf M O H) := by
  refine ⟨⟨s.tab, fun b o h _ => (groundOf_some h).1, s.sub, s.hid, fun a ha => ?_, fun a ps h => (groundOf_some h).2.2 ps rfl, s.len, s.val, s.own, s.inj, s.trs⟩, fun b o h n => groundOf_at (s.gnd b o h n) n fun hb => ?_⟩
  · by_cases hm : a ∈ M
    · exact .inl hm
    · refine .inr ?_
      unfold groundOf
      rw [if_pos ⟨ha, hm⟩]
  · rcases s.fre b hb with q | q
    · exact q
    · rw [q] at h; cases h
theorem hide_ground : ExtN (hide O H) (groundOf M O H) := fun b o h n => by
  obtain ⟨h1, h2⟩ := hide_some h
  exact groundOf_at h1 n fun z => absurd z h2
/-- what was visible at the loop's start is visible -/
theorem StS.visible {O' : List Addr} {σ' : L2.St} {ρ' : EnvS} (sub : ∀ a ∈ M, a ∈ O) (s : StS C (groundOf M O H) M O' σ' ρ' H') : ExtN (hide O H) (hide O' H') := fun b o h n => by
  obtain ⟨h1, h2⟩ := hide_some h
  have hg := hide_ground (M := M) b o h n
  have hb : b ∉ O' := fun z => by
    rcases s.fre b z with q | q
    · exact h2 (sub b q)
    · rw [hg] at q; cases q
  rw [hide_out hb]; exact s.gnd b o hg n
end
def forS (g : Tg) (body : EnvS → Out) : List D → EnvS → Out
  | [], ρ => .next ρ
  | d :: ds, ρ => match bindT g d ρ with
    | none => .stk
    | some ρ1 => match body ρ1 with
      | .next ρ2 => forS g body ds ρ2
      | .cont ρ2 => forS g body ds ρ2
      | .brk ρ2 => .next ρ2
      | r => r
def sFor (vs : List Nat) (g : Tg) (mi : EnvD → Res (List D)) (body : EnvS → Out) : EnvS → Out := fun ρ => match mi (vis (freeze vs ρ)) with
  | .ok ds => forS g body ds (freeze vs ρ)
  | .exc c => .exc c
  | .stk => .stk
/-- over a range: what is read for its ends stays as it was -/
def sForR (vs : List Nat) (g : Tg) (mi : EnvD → Res (List D)) (body : EnvS → Out) : EnvS → Out := fun ρ => match mi (vis (freeze vs ρ)) with
  | .ok ds => forS g body ds ρ
  | .exc c => .exc c
  | .stk => .stk
section
variable {X : Cx} {T : List (Addr × Str)} {E : XK} {tg iter : Expr} {body : List Stmt} {pos : Pos} {mi : EnvD → Res (List D)} {mb : EnvS → Out} {g : Tg}
theorem for_core {C : DC} {G H : Hp} {M O : List Addr} {σ : L2.St} {ρ : EnvS} {J : It} {ds : List D} {D : Ends} {Gv : Hp} (s0 : StS C G M O σ ρ H) (hv : ∀ (O' : List Addr) (σ' : L2.St) (ρ' : EnvS) (H' : Hp), StS C (groundOf M O H) M O' σ' ρ' H' → ExtN Gv (hide O' H')) (it : IterD C Gv J ds) (h : aftS C G M (forS g mb ds ρ) D) :
    ∃ W : Nat → Nat → L2.St → Hp → Prop, (∃ m, W 0 m σ H) ∧ ∀ i m σ H, W i m σ H →
      (J.stop i H ∧ D.nx σ H) ∨ (J.go i H ∧ ∃ N : L2.St → Hp → Prop, (∀ σ' H', N σ' H' → ∃ m', m' < m ∧ W (i + 1) m' σ' H') ∧ ∀ x H', J.yld i H x H' → tgD C g x σ H' fun σ2 H2 => tS C mb { D with nx := N, ct := N, bk := D.nx } σ2 H2) := by
  obtain ⟨hz, w⟩ := it
  obtain ⟨s1, eg⟩ := s0.ground
  have h1 : aftS C (groundOf M O H) M (forS g mb ds ρ) D := aftS.grow h eg s0.ntb
  refine for_it w (fun i σ' H' => ∃ O' ρ', StS C (groundOf M O H) M O' σ' ρ' H' ∧ aftS C (groundOf M O H) M (forS g mb (ds.drop i) ρ') D) ⟨O, ρ, s1, by simpa using h1⟩
    (fun i σ' H' _ ⟨O', ρ', s', _⟩ => (hv O' σ' ρ' H' s').trans (hide_le O' H')) (fun i x σ' H1 H2 hi ⟨O', ρ', s', h'⟩ ⟨e2, d, hd, rd⟩ => ?_) fun σ' H' ⟨O', ρ', s', h'⟩ => ?_
  · have s2 := s'.ext (e2 s'.tab)
    have ed : ds.drop i = d :: ds.drop (i + 1) := by
      obtain ⟨hl, e⟩ := List.getElem?_eq_some_iff.mp hd
      rw [← e]; exact List.drop_eq_getElem_cons hl
    rw [ed] at h'
    unfold forS at h'
    refine ⟨_, M, O', ρ', d, s2, rd O' s'.hid (hv O' σ' ρ' H1 s'), ?_⟩
    cases e3 : bindT g d ρ' with
    | none => rw [e3] at h'; exact h'
    | some ρ1 =>
      rw [e3] at h'
      intro σ2 s3 _
      refine ⟨_, M, O', ρ1, s3, ?_⟩
      have h3 : aftS C (groundOf M O H) M (match mb ρ1 with
        | .next ρ2 => forS g mb (ds.drop (i + 1)) ρ2
        | .cont ρ2 => forS g mb (ds.drop (i + 1)) ρ2
        | .brk ρ2 => .next ρ2
        | r => r) D := h'
      cases e4 : mb ρ1 with
      | next ρ2 => rw [e4] at h3; exact fun O3 σ3 H3 s4 => ⟨O3, ρ2, s4, h3⟩
      | cont ρ2 => rw [e4] at h3; exact fun O3 σ3 H3 s4 => ⟨O3, ρ2, s4, h3⟩
      | brk ρ2 => rw [e4] at h3; exact h3
      | ret d => rw [e4] at h3; exact h3
      | exc c => rw [e4] at h3; exact h3
      | stk => rw [e4] at h3; exact h3
  · rw [List.drop_length] at h'
    exact (aftS.grow (G2 := groundOf M O H) (r := .next ρ') h' (.refl _) (fun a ps z => (groundOf_some z).2.2 ps rfl)) O' σ' H' s'
theorem q_for (vs : List Nat) (hp : PassesOwn (model X.prog X.w) X.A X.env X.xe) (hc : X.calm = true) (hi : PI X tg iter (tI (dc X T E) mi)) (hg : PG X tg (tgD (dc X T E) g)) (hb : PSs X body (tS (dc X T E) mb)) (hs : ∀ x, foldedSetIterable iter X.env x = pure x := by intro _; rfl) :
    PS X (.For tg iter body [] pos) (tS (dc X T E) (sFor vs g mi mb)) := ps_imp (ps_for hp hc hi hg hb hs) fun D σ H ⟨G, M, O, ρ, s, h⟩ => by
  obtain ⟨O1, s1, u1⟩ := s.freeze vs
  refine ⟨O1, _, s1.toE, ?_⟩
  unfold sFor at h
  cases q : mi (vis (freeze vs ρ)) with
  | exc c => rw [q] at h; exact aftS_exc s h
  | stk => rw [q] at h; exact h
  | ok ds =>
    rw [q] at h
    intro J H1 e it
    exact for_core (s1.ext e) (fun O' σ' ρ' H' s' => StS.visible s1.sub s') it h
theorem q_forR (vs : List Nat) (hp : PassesOwn (model X.prog X.w) X.A X.env X.xe) (hc : X.calm = true) (hi : PI X tg iter (tIR (dc X T E) mi)) (hg : PG X tg (tgD (dc X T E) g)) (hb : PSs X body (tS (dc X T E) mb)) (hs : ∀ x, foldedSetIterable iter X.env x = pure x := by intro _; rfl) :
    PS X (.For tg iter body [] pos) (tS (dc X T E) (sForR vs g mi mb)) := ps_imp (ps_for hp hc hi hg hb hs) fun D σ H ⟨G, M, O, ρ, s, h⟩ => by
  obtain ⟨O1, s1, u1⟩ := s.freeze vs
  refine ⟨O1, _, s1.toE, ?_⟩
  unfold sForR at h
  cases q : mi (vis (freeze vs ρ)) with
  | exc c => rw [q] at h; exact aftS_exc s h
  | stk => rw [q] at h; exact h
  | ok ds =>
    rw [q] at h
    intro J H1 e it
    exact for_core (s.ext e) (fun O' σ' ρ' H' s' b o z => by cases z) it h
/-! while -/
def whileS (vs : List Nat) (mt : EnvD → Res Bool) (body : EnvS → Out) : Nat → EnvS → Out
  | 0, _ => .stk
  | n + 1, ρ => match mt (vis (freeze vs ρ)) with
    | .ok k => if k = true then (match body ρ with
      | .next ρ2 => whileS vs mt body n ρ2
      | .cont ρ2 => whileS vs mt body n ρ2
      | .brk ρ2 => .next ρ2
      | r => r) else .next ρ
    | .exc c => .exc c
    | .stk => .stk
variable {mt : EnvD → Res Bool} {c : Expr}
theorem q_while (n : Nat) (vs : List Nat) (hp : PassesOwn (model X.prog X.w) X.A X.env X.xe) (hc : PT X c (tTD (dc X T E) mt)) (hb : PSs X body (tS (dc X T E) mb)) : PS X (.While c body [] pos) (tS (dc X T E) (whileS vs mt mb n)) := ps_imp (ps_while hp hc hb) fun D σ H ⟨G, M, O, ρ, s, h⟩ => by
  refine ⟨fun m σ H => ∃ O ρ, StS (dc X T E) G M O σ ρ H ∧ aftS (dc X T E) G M (whileS vs mt mb m ρ) D, ⟨n, O, ρ, s, h⟩, fun m σ H ⟨O, ρ, s, h⟩ => ?_⟩
  cases m with
  | zero => exact h.elim
  | succ m =>
    obtain ⟨O1, s1, u1⟩ := s.freeze vs
    refine ⟨O1, _, s1.toE, ?_⟩
    unfold whileS at h
    cases q : mt (vis (freeze vs ρ)) with
    | exc c => rw [q] at h; exact aftS_exc s h
    | stk => rw [q] at h; exact h
    | ok k =>
      rw [q] at h
      intro k' H' e r
      have e1 : k' = k := r
      subst e1
      have h' : aftS (dc X T E) G M (if k' = true then (match mb ρ with
        | .next ρ2 => whileS vs mt mb m ρ2
        | .cont ρ2 => whileS vs mt mb m ρ2
        | .brk ρ2 => .next ρ2
        | r => r) else .next ρ) D := h
      cases k' with
      | false => exact h' O σ H' (s.ext e)
      | true =>
        rw [if_pos rfl] at h' ⊢
        refine ⟨fun σ' H' => ∃ O ρ, StS (dc X T E) G M O σ' ρ H' ∧ aftS (dc X T E) G M (whileS vs mt mb m ρ) D, fun σ' H' z => ⟨m, Nat.lt_succ_self m, z⟩, G, M, O, ρ, s.ext e, ?_⟩
        cases e4 : mb ρ with
        | next ρ2 => rw [e4] at h'; exact fun O3 σ3 H3 s4 => ⟨O3, ρ2, s4, h'⟩
        | cont ρ2 => rw [e4] at h'; exact fun O3 σ3 H3 s4 => ⟨O3, ρ2, s4, h'⟩
        | brk ρ2 => rw [e4] at h'; exact h'
        | ret d => rw [e4] at h'; exact h'
        | exc c => rw [e4] at h'; exact h'
        | stk => rw [e4] at h'; exact h'
end
end DL
namespace DL
open PySem PySem.Spec PyProof.Rows L2 LamX
/-! ## comprehensions -/
def injS : Option D → Sl
  | some d => .val d
  | none => .no
def inj (ρ : EnvD) : EnvS := ρ.map injS
def wipeD (ρ : EnvD) : List Nat → EnvD
  | [] => ρ
  | v :: vs => (wipeD ρ vs).set v none
def lcG (g : Tg) (mt : EnvD → Res Bool) (me : EnvD → Res D) (ρ : EnvD) : List D → Res (List D)
  | [] => .ok []
  | d :: ds => match bindT g d (inj ρ) with
    | none => .stk
    | some ρ1 => (mt (vis ρ1)).nox.bind fun k => if k = true then (me (vis ρ1)).nox.bind fun y => (lcG g mt me ρ ds).bind fun r => .ok (y :: r) else lcG g mt me ρ ds
def fLc (own : List Nat) (g : Tg) (mi : EnvD → Res (List D)) (mt : EnvD → Res Bool) (me : EnvD → Res D) : EnvD → Res (List D) := fun ρ => (mi ρ).bind fun ds => lcG g mt me (wipeD ρ own) ds
def bYes : EnvD → Res Bool := fun _ => .ok true
theorem wipeD_len (ρ : EnvD) : ∀ vs : List Nat, (wipeD ρ vs).length = ρ.length
  | [] => rfl
  | v :: vs => by unfold wipeD; rw [List.length_set, wipeD_len ρ vs]
theorem wipeD_some {ρ : EnvD} {i : Nat} {d : D} : ∀ {vs : List Nat}, (wipeD ρ vs)[i]? = some (some d) → ρ[i]? = some (some d) ∧ i ∉ vs
  | [], h => ⟨h, by simp⟩
  | v :: vs, h => by
    unfold wipeD at h
    rcases getElem?_set_cases h with ⟨rfl, e⟩ | ⟨hn, h⟩
    · cases e
    · obtain ⟨h1, h2⟩ := wipeD_some h
      exact ⟨h1, by simp [hn, h2]⟩
theorem wipe_get_out {σ : L2.St} {i : Nat} : ∀ {vs : List Nat}, i ∉ vs → (wipe σ vs)[i]? = σ[i]?
  | [], _ => rfl
  | v :: vs, h => by
    simp only [List.mem_cons, not_or] at h
    unfold wipe
    rw [List.getElem?_set_ne (Ne.symm h.1), wipe_get_out h.2]
theorem wipe_get_in {σ : L2.St} {i : Nat} : ∀ {vs : List Nat}, i ∈ vs → i < σ.length → (wipe σ vs)[i]? = some none
  | [], h, _ => by cases h
  | v :: vs, h, hl => by
    unfold wipe
    by_cases e : i = v
    · subst e; rw [List.getElem?_set_self (by rw [wipe_length]; exact hl)]
    · rw [List.getElem?_set_ne (Ne.symm e)]
      exact wipe_get_in ((List.mem_cons.mp h).resolve_left e) hl
theorem wipe_agree {σ σ2 : L2.St} {vs is : List Nat} (a : Agree is (wipe σ vs) σ2) (h : ∀ i ∈ is, i ∈ vs) : wipe σ2 vs = wipe σ vs := by
  have hl : σ2.length = σ.length := by rw [a.1, wipe_length]
  apply List.ext_getElem?
  intro i
  by_cases hi : i ∈ vs
  · by_cases hb : i < σ.length
    · rw [wipe_get_in hi (by rw [hl]; exact hb), wipe_get_in hi hb]
    · rw [List.getElem?_eq_none (by rw [wipe_length]; omega), List.getElem?_eq_none (by rw [wipe_length]; omega)]
  · rw [wipe_get_out hi, a.2 i fun z => hi (h i z)]
theorem lcG_noexc {g : Tg} {mt : EnvD → Res Bool} {me : EnvD → Res D} {ρ : EnvD} : ∀ {ds : List D} {c : String}, lcG g mt me ρ ds ≠ .exc c
  | [], c, h => by cases h
  | d :: ds, c, h => by
    unfold lcG at h
    split at h
    · cases h
    · rename_i ρ1 _
      cases e1 : mt (vis ρ1) with
      | ok k =>
        rw [e1] at h
        simp only [Res.nox_ok, Res.bind_ok] at h
        cases k with
        | false => simp only [Bool.false_eq_true, if_false] at h; exact lcG_noexc h
        | true =>
          simp only [if_true] at h
          cases e2 : me (vis ρ1) with
          | ok y =>
            rw [e2] at h
            simp only [Res.nox_ok, Res.bind_ok] at h
            cases e3 : lcG g mt me ρ ds with
            | ok r => rw [e3] at h; cases h
            | exc c' => exact lcG_noexc e3
            | stk => rw [e3] at h; cases h
          | exc _ => rw [e2] at h; cases h
          | stk => rw [e2] at h; cases h
      | exc _ => rw [e1] at h; cases h
      | stk => rw [e1] at h; cases h
section
variable {X : Cx} {T : List (Addr × Str)} {E : XK} {tg iter elt : Expr} {ifs : List Expr} {pos : Pos} {scope : Scope} {own : List (Str × Nat)} {mi : EnvD → Res (List D)} {mt : EnvD → Res Bool} {me : EnvD → Res D} {g : Tg}
theorem pts_imp {ifs : List Expr} {t t' : TT} (h : PTs X ifs t) (i : ∀ σ H Q, t' σ H Q → t σ H Q) : PTs X ifs t' := ⟨fun pins s σ H Q I q => h.run pins s σ H Q I (i σ H Q q)⟩
theorem ts_nil : PTs X [] (tTD (dc X T E) bYes) := pts_imp pts_nil fun σ H Q ⟨M, ρ, st, q⟩ => q true H (.refl st.tab) rfl
theorem ts_one {c : Expr} (h : PT X c (tTD (dc X T E) mt)) : PTs X [c] (tTD (dc X T E) mt) := pts_one h
abbrev E00 : XK := fun _ _ _ => False
theorem inj_get {ρ : EnvD} {i : Nat} {d : D} (h : (inj ρ)[i]? = some (.val d)) : ρ[i]? = some (some d) := by
  unfold inj at h
  rw [List.getElem?_map] at h
  cases e : ρ[i]? with
  | none => rw [e] at h; cases h
  | some s =>
    rw [e] at h
    cases s with
    | none => simp [injS] at h
    | some x => have e : x = d := by simpa [injS] using h
                rw [e]
theorem inj_own {ρ : EnvD} {i : Nat} {ds : List D} (h : (inj ρ)[i]? = some (.own ds)) : False := by
  unfold inj at h
  rw [List.getElem?_map] at h
  cases e : ρ[i]? with
  | none => rw [e] at h; cases h
  | some s => rw [e] at h; cases s <;> simp [injS] at h
theorem inj_tre {ρ : EnvD} {i : Nat} {t : Tr} (h : (inj ρ)[i]? = some (.tre t)) : False := by
  unfold inj at h
  rw [List.getElem?_map] at h
  cases e : ρ[i]? with
  | none => rw [e] at h; cases h
  | some s => rw [e] at h; cases s <;> simp [injS] at h
/-- the slots as a frame of data alone -/
theorem StE.toS {C : DC} {M : List Addr} {σ : L2.St} {ρ : EnvD} {H : Hp} (s : StE C M σ ρ H) : StS C none0 M M σ (inj ρ) H := by
  refine ⟨s.tab, fun b o z => ?_, fun a h => h, s.hid, fun a h => .inl h, fun a ps z => ?_, ?_, fun i d h => s.env i d (inj_get h), fun i ds h => (inj_own h).elim, fun i j p di dj h => (inj_own h).elim, TreOk.none fun i t h => inj_tre h⟩
  · cases z
  · cases z
  · unfold inj; rw [List.length_map, s.len]
theorem lc_imp (hsub : ∀ i ∈ g.slots, i ∈ own.map (·.2)) : ∀ σ H Q, tF (dc X T E) (fLc (own.map (·.2)) g mi mt me) σ H Q → tLc (tI (dc X T E) mi) (tgD ⟨X.K, T, E00⟩ g) (tTD ⟨X.K, T, E00⟩ mt) (tD ⟨X.K, T, E00⟩ me) (own.map (·.2)) σ H Q := fun σ H Q ⟨M, ρ, st, q⟩ => by
  refine ⟨M, ρ, st, ?_⟩
  unfold fLc at q
  cases e1 : mi ρ with
  | exc c => rw [e1] at q; exact q
  | stk => rw [e1] at q; exact q
  | ok ds =>
    rw [e1] at q
    intro J H1 ex it Dn hD
    have q' : aftF (dc X T E) M H (lcG g mt me (wipeD ρ (own.map (·.2))) ds) Q := q
    cases e2 : lcG g mt me (wipeD ρ (own.map (·.2))) ds with
    | exc c => exact absurd e2 lcG_noexc
    | stk => rw [e2] at q'; exact q'.elim
    | ok fin =>
      rw [e2] at q'
      have nD : ∀ b o, H1 b = some o → b ≠ Dn := fun b o h => ne_of_none h hD
      have le1 : ∀ {H2 : Hp}, ExtN H1 H2 → ExtN (hide M H1) (hide (Dn :: M) H2) := fun e b o h n => by
        obtain ⟨h1, h2⟩ := hide_some h
        rw [hide_out (by simp [nD b o h1, h2])]; exact e b o h1 n
      have dM : Dn ∉ M := (st.hid.ext ex.old).fresh hD
      refine lc_it it.2 (fun i H' => ∃ acc accD rest, H' Dn = some (.lst acc) ∧ acc.length ≤ i ∧ RDs X.K (hide (Dn :: M) H') acc accD ∧ ExtN H1 H' ∧ Tabs T H' ∧ lcG g mt me (wipeD ρ (own.map (·.2))) (ds.drop i) = .ok rest ∧ fin = accD ++ rest)
        ⟨[], [], fin, upd_same, Nat.le_refl _, .nil, .of (ext_new hD), ex.tab.ext (ext_new hD), by simpa using e2, rfl⟩
        (fun i H' _ ⟨acc, accD, rest, _, _, _, h4, _⟩ => (hide_le M H1).trans h4) (fun i x H2 H3 hi ⟨acc, accD, rest, a1, a2, a3, a4, a5, a6, a7⟩ ⟨y1, d, y2, y3⟩ => ?_) fun H' ⟨acc, accD, rest, a1, a2, a3, a4, a5, a6, a7⟩ => ?_
      · have e3 := y1 a5
        have hidD : ∀ {H2 : Hp} {acc : List V}, ExtN H1 H2 → H2 Dn = some (.lst acc) → HidOk (Dn :: M) H2 := fun e h => ((st.hid.ext ex.old).ext e).lst h
        have rd := y3 (Dn :: M) (hidD a4 a1) (le1 a4)
        have a4' : ExtN H1 H3 := a4.trans e3.old
        have a1' : H3 Dn = some (.lst acc) := e3.old _ _ a1 (fun ps z => by cases z)
        have sw : StE ⟨X.K, T, E00⟩ (Dn :: M) (wipe σ (own.map (·.2))) (wipeD ρ (own.map (·.2))) H3 := ⟨e3.tab, hidD a4' a1', by rw [wipe_length, wipeD_len, st.len], fun j dj h => by
          obtain ⟨h1, h2⟩ := wipeD_some h
          obtain ⟨v, b1, b2⟩ := st.env j dj h1
          exact ⟨v, by rw [wipe_get_out h2]; exact b1, b2.ext ((hide_mono M ex.old).trans (le1 a4'))⟩⟩
        have ed : ds.drop i = d :: ds.drop (i + 1) := by
          obtain ⟨hl, e⟩ := List.getElem?_eq_some_iff.mp y2
          rw [← e]; exact List.drop_eq_getElem_cons hl
        rw [ed] at a6
        unfold lcG at a6
        refine ⟨none0, Dn :: M, Dn :: M, _, d, sw.toS, rd, ?_⟩
        cases e4 : bindT g d (inj (wipeD ρ (own.map (·.2)))) with
        | none => rw [e4] at a6; cases a6
        | some ρ1 =>
          rw [e4] at a6
          intro σ2 s2 ag
          refine ⟨wipe_agree ag hsub, ?_⟩
          refine ⟨Dn :: M, _, s2.toE, ?_⟩
          cases e5 : mt (vis ρ1) with
          | exc c => simp only [e5] at a6; cases a6
          | stk => simp only [e5] at a6; cases a6
          | ok k =>
            simp only [e5, Res.nox_ok, Res.bind_ok] at a6
            intro k' H4 x4 r4
            have ek : k' = k := r4
            subst ek
            have a1'' : H4 Dn = some (.lst acc) := x4.old _ _ a1' (fun ps z => by cases z)
            have a4'' : ExtN H1 H4 := a4'.trans x4.old
            have a3'' : RDs X.K (hide (Dn :: M) H4) acc accD := a3.ext ((hide_mono _ e3.old).trans (hide_mono _ x4.old))
            cases k' with
            | false =>
              simp only [Bool.false_eq_true, if_false] at a6
              rw [if_neg (by decide)]
              exact ⟨acc, accD, rest, a1'', by omega, a3'', a4'', x4.tab, a6, a7⟩
            | true =>
              simp only [if_true] at a6
              rw [if_pos rfl]
              refine ⟨Dn :: M, _, (s2.ext x4).toE, ?_⟩
              cases e6 : me (vis ρ1) with
              | exc c => simp only [e6] at a6; cases a6
              | stk => simp only [e6] at a6; cases a6
              | ok y =>
                simp only [e6, Res.nox_ok, Res.bind_ok] at a6
                intro v H5 x5 r5
                have a1''' : H5 Dn = some (.lst acc) := x5.old _ _ a1'' (fun ps z => by cases z)
                have a4''' : ExtN H1 H5 := a4''.trans x5.old
                cases e7 : lcG g mt me (wipeD ρ (own.map (·.2))) (ds.drop (i + 1)) with
                | exc c => rw [e7] at a6; cases a6
                | stk => rw [e7] at a6; cases a6
                | ok rest' =>
                  rw [e7] at a6
                  have er : rest = y :: rest' := by simpa using a6.symm
                  refine ⟨acc, a1''', Nat.lt_of_le_of_lt a2 (Nat.lt_of_lt_of_le hi it.1), acc ++ [v], accD ++ [y], rest', upd_same, by rw [List.length_append]; simp; omega, ?_, fun b o h n => ?_, tabs_upd x5.tab a1''', rfl, by rw [a7, er]; simp⟩
                  · rw [hide_upd_in List.mem_cons_self]
                    exact (a3''.ext (hide_mono _ x5.old)).append (.one r5)
                  · rw [upd_ne (nD b o h)]; exact a4''' b o h n
      · rw [List.drop_length] at a6
        have er : rest = [] := by
          have : Res.ok ([] : List D) = .ok rest := a6
          cases this; rfl
        rw [er, List.append_nil] at a7
        subst a7
        refine q' Dn acc H' (ex.trans ⟨a4, a5⟩) a1 (Nat.le_trans a2 it.1) a3 fun b o h n e => ?_
        exact nD b o (ex.old b o h n) e
theorem f_lc (hc : X.calm = true) (hN : X.N.Nodup) (hi : PI X tg iter (tI (dc X T E) mi)) (ok : BlkOk X.N X.env.scope scope own) (hsub : ∀ i ∈ g.slots, i ∈ own.map (·.2))
    (hg : ∀ (s : Shared) (H : Hp) (C : Addr) (cl : List (Str × Addr)) (fp : List Addr), PG (X.blk s H scope (compEnvC scope cl C X.env) fp) tg (tgD ⟨X.K, T, E00⟩ g))
    (ht : ∀ (s : Shared) (H : Hp) (C : Addr) (cl : List (Str × Addr)) (fp : List Addr), PTs (X.blk s H scope (compEnvC scope cl C X.env) fp) ifs (tTD ⟨X.K, T, E00⟩ mt))
    (he : ∀ (s : Shared) (H : Hp) (C : Addr) (cl : List (Str × Addr)) (fp : List Addr), PE (X.blk s H scope (compEnvC scope cl C X.env) fp) elt (tD ⟨X.K, T, E00⟩ me)) (hs : ∀ x, foldedSetIterable iter X.env x = pure x := by intro _; rfl) :
    PE X (.ListComp elt [⟨tg, iter, ifs, 0⟩] scope pos) (tF (dc X T E) (fLc (own.map (·.2)) g mi mt me)) := pe_imp (pe_lc hc hN hi ok hg ht he hs) (lc_imp hsub)
theorem d_lc (hc : X.calm = true) (hN : X.N.Nodup) (hi : PI X tg iter (tI (dc X T E) mi)) (ok : BlkOk X.N X.env.scope scope own) (hsub : ∀ i ∈ g.slots, i ∈ own.map (·.2))
    (hg : ∀ (s : Shared) (H : Hp) (C : Addr) (cl : List (Str × Addr)) (fp : List Addr), PG (X.blk s H scope (compEnvC scope cl C X.env) fp) tg (tgD ⟨X.K, T, E00⟩ g))
    (ht : ∀ (s : Shared) (H : Hp) (C : Addr) (cl : List (Str × Addr)) (fp : List Addr), PTs (X.blk s H scope (compEnvC scope cl C X.env) fp) ifs (tTD ⟨X.K, T, E00⟩ mt))
    (he : ∀ (s : Shared) (H : Hp) (C : Addr) (cl : List (Str × Addr)) (fp : List Addr), PE (X.blk s H scope (compEnvC scope cl C X.env) fp) elt (tD ⟨X.K, T, E00⟩ me)) (hs : ∀ x, foldedSetIterable iter X.env x = pure x := by intro _; rfl) :
    PE X (.ListComp elt [⟨tg, iter, ifs, 0⟩] scope pos) (tD (dc X T E) (mOfL (fLc (own.map (·.2)) g mi mt me))) := d_fresh (f_lc hc hN hi ok hsub hg ht he hs)
/-- name = [..] on one line -/
theorem q_asgLc (vs : List Nat) {i : Nat} {y : Str} {py spos : Pos} (hy : X.N[i]? = some y) (hyl : X.env.scope.names.lookup y = some .local)
    (hsw : swapsWith (.ListComp elt [⟨tg, iter, ifs, 0⟩] scope pos) (some (.Name y py)) spos.line X.env = pure true) (hc : X.calm = true) (hN : X.N.Nodup) (hi : PI X tg iter (tI (dc X T E) mi)) (ok : BlkOk X.N X.env.scope scope own) (hsub : ∀ i ∈ g.slots, i ∈ own.map (·.2))
    (hg : ∀ (s : Shared) (H : Hp) (C : Addr) (cl : List (Str × Addr)) (fp : List Addr), PG (X.blk s H scope (compEnvC scope cl C X.env) fp) tg (tgD ⟨X.K, T, E00⟩ g))
    (ht : ∀ (s : Shared) (H : Hp) (C : Addr) (cl : List (Str × Addr)) (fp : List Addr), PTs (X.blk s H scope (compEnvC scope cl C X.env) fp) ifs (tTD ⟨X.K, T, E00⟩ mt))
    (he : ∀ (s : Shared) (H : Hp) (C : Addr) (cl : List (Str × Addr)) (fp : List Addr), PE (X.blk s H scope (compEnvC scope cl C X.env) fp) elt (tD ⟨X.K, T, E00⟩ me)) (hs : ∀ x, foldedSetIterable iter X.env x = pure x := by intro _; rfl) :
    PS X (.Assign [.Name y py] (.ListComp elt [⟨tg, iter, ifs, 0⟩] scope pos) spos) (tS (dc X T E) (sAsg vs i (mOfL (fLc (own.map (·.2)) g mi mt me)))) := ps_imp (ps_setLc hc hN hy hyl hsw hi ok hg ht he hs) (asg_imp vs i fun σ H Q h => lc_imp hsub σ H Q (fresh_imp σ H Q h))
theorem q_ownLc (vs : List Nat) {i : Nat} {y : Str} {py spos : Pos} (hy : X.N[i]? = some y) (hyl : X.env.scope.names.lookup y = some .local)
    (hsw : swapsWith (.ListComp elt [⟨tg, iter, ifs, 0⟩] scope pos) (some (.Name y py)) spos.line X.env = pure true) (hc : X.calm = true) (hN : X.N.Nodup) (hi : PI X tg iter (tI (dc X T E) mi)) (ok : BlkOk X.N X.env.scope scope own) (hsub : ∀ i ∈ g.slots, i ∈ own.map (·.2))
    (hg : ∀ (s : Shared) (H : Hp) (C : Addr) (cl : List (Str × Addr)) (fp : List Addr), PG (X.blk s H scope (compEnvC scope cl C X.env) fp) tg (tgD ⟨X.K, T, E00⟩ g))
    (ht : ∀ (s : Shared) (H : Hp) (C : Addr) (cl : List (Str × Addr)) (fp : List Addr), PTs (X.blk s H scope (compEnvC scope cl C X.env) fp) ifs (tTD ⟨X.K, T, E00⟩ mt))
    (he : ∀ (s : Shared) (H : Hp) (C : Addr) (cl : List (Str × Addr)) (fp : List Addr), PE (X.blk s H scope (compEnvC scope cl C X.env) fp) elt (tD ⟨X.K, T, E00⟩ me)) (hs : ∀ x, foldedSetIterable iter X.env x = pure x := by intro _; rfl) :
    PS X (.Assign [.Name y py] (.ListComp elt [⟨tg, iter, ifs, 0⟩] scope pos) spos) (tS (dc X T E) (sOwn vs i (fLc (own.map (·.2)) g mi mt me))) := ps_imp (ps_setLc hc hN hy hyl hsw hi ok hg ht he hs) (own_imp vs i (lc_imp hsub))
end
end DL
namespace DL
open PySem PySem.Spec PyProof.Rows L2 LamX
/-! ## several names at once -/
def sAsgT (vs : List Nat) (g : Tg) (me : EnvD → Res D) : EnvS → Out := fun ρ => match me (vis (freeze vs ρ)) with
  | .ok d => (match bindT g d (freeze vs ρ) with
    | some ρ' => .next ρ'
    | none => .stk)
  | .exc c => .exc c
  | .stk => .stk
def sPar (vs : List Nat) (i j : Nat) (ma mb : EnvD → Res D) : EnvS → Out := fun ρ => match (ma (vis (freeze vs ρ))).bind fun a => (mb (vis (freeze vs ρ))).bind fun b => .ok (a, b) with
  | .ok (a, b) => .next (((if (isFlat a && isFlat b) = true then ρ else freeze vs ρ).set i (.val a)).set j (.val b))
  | .exc c => .exc c
  | .stk => .stk
/-- a fresh list, a datum -/
def sParO (vs : List Nat) (i j : Nat) (ml : EnvD → Res (List D)) (mb : EnvD → Res D) : EnvS → Out := fun ρ => match (ml (vis (freeze vs ρ))).bind fun a => (mb (vis (freeze vs ρ))).bind fun b => .ok (a, b) with
  | .ok (a, b) => .next (((if (a.all isFlat && isFlat b) = true then ρ else freeze vs ρ).set i (.own a)).set j (.val b))
  | .exc c => .exc c
  | .stk => .stk
/-- a datum, a fresh list -/
def sParV (vs : List Nat) (i j : Nat) (ma : EnvD → Res D) (ml : EnvD → Res (List D)) : EnvS → Out := fun ρ => match (ma (vis (freeze vs ρ))).bind fun a => (ml (vis (freeze vs ρ))).bind fun b => .ok (a, b) with
  | .ok (a, b) => .next (((if (isFlat a && b.all isFlat) = true then ρ else freeze vs ρ).set i (.val a)).set j (.own b))
  | .exc c => .exc c
  | .stk => .stk
/-- two fresh lists -/
def sParOO (vs : List Nat) (i j : Nat) (ml mk : EnvD → Res (List D)) : EnvS → Out := fun ρ => match (ml (vis (freeze vs ρ))).bind fun a => (mk (vis (freeze vs ρ))).bind fun b => .ok (a, b) with
  | .ok (a, b) => .next (((if (a.all isFlat && b.all isFlat) = true then ρ else freeze vs ρ).set i (.own a)).set j (.own b))
  | .exc c => .exc c
  | .stk => .stk
section
variable {X : Cx} {T : List (Addr × Str)} {E : XK} {e a b : Expr} {tg : Expr} {pos px py pt pt2 : Pos} {kt k2 : Nat} {me ma mb : EnvD → Res D} {ml mk : EnvD → Res (List D)} {g : Tg} {x y : Str} {i j : Nat}
theorem q_asgT (vs : List Nat) (he : PE X e (tD (dc X T E) me)) (hg : PG X tg (tgD (dc X T E) g)) (hs : swapsWithSole [tg] e pos.line X.env = pure false := by rfl) (hw : swappedStores [tg] e X.env = pure none := by rfl) (h1 : (assignEach [tg] X.env).map (·.2) = [assign tg X.env] := by rfl) :
    PS X (.Assign [tg] e pos) (tS (dc X T E) (sAsgT vs g me)) := ps_imp (ps_asg he hg hs hw h1) fun D σ H ⟨G, M, O, ρ, s, h⟩ => by
  obtain ⟨O1, s1, u1⟩ := s.freeze vs
  refine ⟨O1, _, s1.toE, ?_⟩
  unfold sAsgT at h
  cases q : me (vis (freeze vs ρ)) with
  | ok d =>
    simp only [q] at h
    intro v H' e r
    refine ⟨G, M, O1, _, d, s1.ext e, r, ?_⟩
    cases q2 : bindT g d (freeze vs ρ) with
    | none => rw [q2] at h; exact h
    | some ρ' => rw [q2] at h; exact fun σ' s' _ => h _ _ _ s'
  | exc c => rw [q] at h; exact aftS_exc s h
  | stk => rw [q] at h; exact h
theorem q_par (vs : List Nat) (hc : X.calm = true) (hN : X.N.Nodup) (hi : X.N[i]? = some x) (hj : X.N[j]? = some y) (hij : i ≠ j) (hx : X.env.scope.names.lookup x = some .local) (hy : X.env.scope.names.lookup y = some .local)
    (ha : PE X a (tD (dc X T E) ma)) (hb : PE X b (tD (dc X T E) mb)) (hsa : starEach [a, b] X.env = (false, eval a X.env) :: starEach [b] X.env := by rfl) (hsb : starEach [b] X.env = (false, eval b X.env) :: starEach [] X.env := by rfl)
    (hw : swappedStores [.Tuple [.Name x px, .Name y py] kt pt] (.Tuple [a, b] k2 pt2) X.env = pure (some [x, y]) := by rfl) (hs : swapsWithSole [.Tuple [.Name x px, .Name y py] kt pt] (.Tuple [a, b] k2 pt2) pos.line X.env = pure false := by rfl) :
    PS X (.Assign [.Tuple [.Name x px, .Name y py] kt pt] (.Tuple [a, b] k2 pt2) pos) (tS (dc X T E) (sPar vs i j ma mb)) := ps_imp (ps_par hc hN hi hj hij hx hy (pa_cons ha (pa_cons hb pa_nil hsb) hsa) hw hs) fun D σ H ⟨G, M, O, ρ, s, h⟩ => by
  obtain ⟨O1, s1, u1⟩ := s.freeze vs
  refine ⟨O1, _, s1.toE, ?_⟩
  unfold sPar at h
  cases q : ma (vis (freeze vs ρ)) with
  | exc c => rw [q] at h; exact aftS_exc s h
  | stk => rw [q] at h; exact h
  | ok da =>
    simp only [q, Res.bind_ok] at h
    intro v H1 e1 r1
    refine ⟨O1, _, (s1.ext e1).toE, ?_⟩
    cases q2 : mb (vis (freeze vs ρ)) with
    | exc c => rw [q2] at h; exact aftS_exc (s.ext e1) h
    | stk => rw [q2] at h; exact h
    | ok db =>
      simp only [q2, Res.bind_ok] at h
      intro u H2 e2 r2
      refine ⟨v, u, rfl, ?_⟩
      have r1' := r1.ext (hide_mono O1 e2.old)
      by_cases hf : (isFlat da && isFlat db) = true
      · simp only [if_pos hf] at h
        obtain ⟨f1, f2⟩ := Bool.and_eq_true_iff.mp hf
        exact h O _ H2 ((((s.ext e1).ext e2).setVal (flat_any r1' f1)).setVal (flat_any r2 f2))
      · simp only [if_neg hf] at h
        exact h O1 _ H2 ((((s1.ext e1).ext e2).setVal r1').setVal r2)
theorem StE.hideMore {C : DC} {M : List Addr} {σ : L2.St} {ρ : EnvD} {H H' : Hp} (s : StE C M σ ρ H) (e : ExtT C H H') {p : Addr} {vs : List V} (hp : H' p = some (.lst vs)) (n : ∀ b o, H b = some o → (∀ ps, o ≠ .tbl ps) → b ≠ p) : StE C (p :: M) σ ρ H' :=
  ⟨e.tab, (s.hid.ext e.old).lst hp, s.len, fun i d h => let ⟨v, h1, h2⟩ := s.env i d h; ⟨v, h1, h2.ext (fresh_le e.old n)⟩⟩
theorem StS.setVal' {C : DC} {G H : Hp} {M O : List Addr} {σ : L2.St} {ρ : EnvS} (s : StS C G M O σ ρ H) {i : Nat} {v : V} {d : D} {O' : List Addr} (r : RD C.K (hide O' H) v d) (h : ∀ a ∈ O, a ∈ O') : StS C G M O (σ.set i (some v)) (ρ.set i (.val d)) H := s.setVal (r.ext (hide_sub H h))
theorem q_parO (vs : List Nat) (hc : X.calm = true) (hN : X.N.Nodup) (hi : X.N[i]? = some x) (hj : X.N[j]? = some y) (hij : i ≠ j) (hx : X.env.scope.names.lookup x = some .local) (hy : X.env.scope.names.lookup y = some .local)
    (ha : PE X a (tF (dc X T E) ml)) (hb : PE X b (tD (dc X T E) mb)) (hsa : starEach [a, b] X.env = (false, eval a X.env) :: starEach [b] X.env := by rfl) (hsb : starEach [b] X.env = (false, eval b X.env) :: starEach [] X.env := by rfl)
    (hw : swappedStores [.Tuple [.Name x px, .Name y py] kt pt] (.Tuple [a, b] k2 pt2) X.env = pure (some [x, y]) := by rfl) (hs : swapsWithSole [.Tuple [.Name x px, .Name y py] kt pt] (.Tuple [a, b] k2 pt2) pos.line X.env = pure false := by rfl) :
    PS X (.Assign [.Tuple [.Name x px, .Name y py] kt pt] (.Tuple [a, b] k2 pt2) pos) (tS (dc X T E) (sParO vs i j ml mb)) := ps_imp (ps_par hc hN hi hj hij hx hy (pa_cons ha (pa_cons hb pa_nil hsb) hsa) hw hs) fun D σ H ⟨G, M, O, ρ, s, h⟩ => by
  obtain ⟨O1, s1, u1⟩ := s.freeze vs
  refine ⟨O1, _, s1.toE, ?_⟩
  unfold sParO at h
  cases q : ml (vis (freeze vs ρ)) with
  | exc c => rw [q] at h; exact aftS_exc s h
  | stk => rw [q] at h; exact h
  | ok da =>
    simp only [q, Res.bind_ok] at h
    intro p us H1 e1 hp z r1 n
    refine ⟨p :: O1, _, s1.toE.hideMore e1 hp n, ?_⟩
    cases q2 : mb (vis (freeze vs ρ)) with
    | exc c => rw [q2] at h; exact aftS_exc (s.ext e1) h
    | stk => rw [q2] at h; exact h
    | ok db =>
      simp only [q2, Res.bind_ok] at h
      intro u H2 e2 r2
      refine ⟨.ref p, u, rfl, ?_⟩
      by_cases hf : (da.all isFlat && isFlat db) = true
      · simp only [if_pos hf] at h
        obtain ⟨f1, f2⟩ := Bool.and_eq_true_iff.mp hf
        exact h _ _ H2 (((s.own_new e1 hp z (flats_any r1 f1) n).ext e2).setVal (flat_any r2 f2))
      · simp only [if_neg hf] at h
        exact h _ _ H2 (((s1.own_new e1 hp z r1 n).ext e2).setVal r2)
  
theorem q_parV (vs : List Nat) (hc : X.calm = true) (hN : X.N.Nodup) (hi : X.N[i]? = some x) (hj : X.N[j]? = some y) (hij : i ≠ j) (hx : X.env.scope.names.lookup x = some .local) (hy : X.env.scope.names.lookup y = some .local)
    (ha : PE X a (tD (dc X T E) ma)) (hb : PE X b (tF (dc X T E) ml)) (hsa : starEach [a, b] X.env = (false, eval a X.env) :: starEach [b] X.env := by rfl) (hsb : starEach [b] X.env = (false, eval b X.env) :: starEach [] X.env := by rfl)
    (hw : swappedStores [.Tuple [.Name x px, .Name y py] kt pt] (.Tuple [a, b] k2 pt2) X.env = pure (some [x, y]) := by rfl) (hs : swapsWithSole [.Tuple [.Name x px, .Name y py] kt pt] (.Tuple [a, b] k2 pt2) pos.line X.env = pure false := by rfl) :
    PS X (.Assign [.Tuple [.Name x px, .Name y py] kt pt] (.Tuple [a, b] k2 pt2) pos) (tS (dc X T E) (sParV vs i j ma ml)) := ps_imp (ps_par hc hN hi hj hij hx hy (pa_cons ha (pa_cons hb pa_nil hsb) hsa) hw hs) fun D σ H ⟨G, M, O, ρ, s, h⟩ => by
  obtain ⟨O1, s1, u1⟩ := s.freeze vs
  refine ⟨O1, _, s1.toE, ?_⟩
  unfold sParV at h
  cases q : ma (vis (freeze vs ρ)) with
  | exc c => rw [q] at h; exact aftS_exc s h
  | stk => rw [q] at h; exact h
  | ok da =>
    simp only [q, Res.bind_ok] at h
    intro v H1 e1 r1
    refine ⟨O1, _, (s1.ext e1).toE, ?_⟩
    cases q2 : ml (vis (freeze vs ρ)) with
    | exc c => rw [q2] at h; exact aftS_exc (s.ext e1) h
    | stk => rw [q2] at h; exact h
    | ok db =>
      simp only [q2, Res.bind_ok] at h
      intro p us H2 e2 hp z r2 n
      refine ⟨v, .ref p, rfl, ?_⟩
      by_cases hf : (isFlat da && db.all isFlat) = true
      · simp only [if_pos hf] at h
        obtain ⟨f1, f2⟩ := Bool.and_eq_true_iff.mp hf
        exact h _ _ H2 (((s.ext e1).setVal (flat_any r1 f1)).own_new e2 hp z (flats_any r2 f2) n)
      · simp only [if_neg hf] at h
        exact h _ _ H2 (((s1.ext e1).setVal r1).own_new e2 hp z r2 n)
theorem q_parOO (vs : List Nat) (hc : X.calm = true) (hN : X.N.Nodup) (hi : X.N[i]? = some x) (hj : X.N[j]? = some y) (hij : i ≠ j) (hx : X.env.scope.names.lookup x = some .local) (hy : X.env.scope.names.lookup y = some .local)
    (ha : PE X a (tF (dc X T E) ml)) (hb : PE X b (tF (dc X T E) mk)) (hsa : starEach [a, b] X.env = (false, eval a X.env) :: starEach [b] X.env := by rfl) (hsb : starEach [b] X.env = (false, eval b X.env) :: starEach [] X.env := by rfl)
    (hw : swappedStores [.Tuple [.Name x px, .Name y py] kt pt] (.Tuple [a, b] k2 pt2) X.env = pure (some [x, y]) := by rfl) (hs : swapsWithSole [.Tuple [.Name x px, .Name y py] kt pt] (.Tuple [a, b] k2 pt2) pos.line X.env = pure false := by rfl) :
    PS X (.Assign [.Tuple [.Name x px, .Name y py] kt pt] (.Tuple [a, b] k2 pt2) pos) (tS (dc X T E) (sParOO vs i j ml mk)) := ps_imp (ps_par hc hN hi hj hij hx hy (pa_cons ha (pa_cons hb pa_nil hsb) hsa) hw hs) fun D σ H ⟨G, M, O, ρ, s, h⟩ => by
  obtain ⟨O1, s1, u1⟩ := s.freeze vs
  refine ⟨O1, _, s1.toE, ?_⟩
  unfold sParOO at h
  cases q : ml (vis (freeze vs ρ)) with
  | exc c => rw [q] at h; exact aftS_exc s h
  | stk => rw [q] at h; exact h
  | ok da =>
    simp only [q, Res.bind_ok] at h
    intro p us H1 e1 hp z r1 n
    refine ⟨p :: O1, _, s1.toE.hideMore e1 hp n, ?_⟩
    cases q2 : mk (vis (freeze vs ρ)) with
    | exc c => rw [q2] at h; exact aftS_exc (s.ext e1) h
    | stk => rw [q2] at h; exact h
    | ok db =>
      simp only [q2, Res.bind_ok] at h
      intro p2 us2 H2 e2 hp2 z2 r2 n2
      refine ⟨.ref p, .ref p2, rfl, ?_⟩
      by_cases hf : (da.all isFlat && db.all isFlat) = true
      · simp only [if_pos hf] at h
        obtain ⟨f1, f2⟩ := Bool.and_eq_true_iff.mp hf
        exact h _ _ H2 ((s.own_new e1 hp z (flats_any r1 f1) n).own_new e2 hp2 z2 (flats_any r2 f2) n2)
      · simp only [if_neg hf] at h
        exact h _ _ H2 ((s1.own_new e1 hp z r1 n).own_new e2 hp2 z2 r2 n2)
end
/-! ## defs -/
def spD (K : PySem.W.Frag) (T : List (Addr × Str)) (n : Nat) (f : List D → Res D) : Sp := fun vs H Q E => ∃ M ds, ds.length = n ∧ Tabs T H ∧ HidOk M H ∧ RDs K (hide M H) vs ds ∧ aft ⟨K, T, E⟩ M H (RD K) (f ds) Q
/-- a def of the module that does f -/
def Fn (P : Program) (w : World) (K : PySem.W.Frag) (mg : Str → Option Value) (base : Heap) (T : List (Addr × Str)) (x : Str) (k n : Nat) (f : List D → Res D) : Prop :=
  ∃ (a : Addr) (fd : FuncData) (ps : List Str), mg x = some (.ref a) ∧ PySem.W.keepIn K (.ref a) = true ∧ Binds K fd ps [] ∧ ps.length = n ∧ FnOk P w K mg base (L2N.CX P w) k a fd ps (spD K T n f)
def toRes : Out → Res D
  | .next _ => .ok .non
  | .ret d => .ok d
  | .exc c => .exc c
  | _ => .stk
def startS (n : Nat) (ds : List D) : EnvS := ds.map .val ++ List.replicate (n - ds.length) .no
def runB (n k : Nat) (m : EnvS → Out) (ds : List D) : Res D := if ds.length = k then toRes (m (startS n ds)) else .stk
section
variable {X : Cx} {T : List (Addr × Str)} {E : XK} {e : Expr} {es : List Expr} {pos p : Pos} {mr : EnvD → Res (List D)} {f : List D → Res D} {x : Str} {k n : Nat}
theorem d_call (F : Fn X.prog X.w X.K X.mg X.base T x k n f) (hr : Room k X.A) (hg : Gl X x) (hx : Passes (L2N.CX X.prog X.w) X E) (ha : PA X (e :: es) (tAD (dc X T E) mr)) (hn : ∀ ρ ds, mr ρ = .ok ds → ds.length = n)
    (hdb : (x == ("__debug__" : Str)) = false := by decide) (he : starEach (e :: es) X.env = (false, eval e X.env) :: starEach es X.env := by rfl) (hpl : (backTo pos (starEach es X.env)).any (·.1) = false := by rfl) :
    PE X (.Call (.Name x p) (e :: es) [] pos) (tD (dc X T E) (mCall f mr)) := by
  obtain ⟨a, fd, ps, h1, h2, h3, h4, h5⟩ := F
  refine pe_imp (pe_call h5 hr hg h1 h2 h3 .nil hx ha (hdb := hdb) (he := he) (hpl := hpl)) fun σ H Q ⟨M, ρ, st, q⟩ => ?_
  refine ⟨M, ρ, st, (aft.bind (Rel := RDs X.K) q).imp fun vs H1 ⟨ds, e0, e1, r1, q1⟩ => ?_⟩
  rw [List.append_nil]
  exact ⟨M, ds, hn ρ ds e0, e1.tab, st.hid.ext e1.old, r1, q1⟩
end
theorem aCons_len {m : EnvD → Res D} {r : EnvD → Res (List D)} {n : Nat} (h : ∀ ρ ds, r ρ = .ok ds → ds.length = n) : ∀ ρ ds, aCons m r ρ = .ok ds → ds.length = n + 1 := fun ρ ds e => by
  unfold aCons at e
  cases e1 : m ρ with
  | ok d =>
    rw [e1] at e
    cases e2 : r ρ with
    | ok ds' => rw [e2] at e; cases e; simp [h ρ ds' e2]
    | exc c => rw [e2] at e; cases e
    | stk => rw [e2] at e; cases e
  | exc c => rw [e1] at e; cases e
  | stk => rw [e1] at e; cases e
theorem aNil_len : ∀ ρ ds, aNil ρ = .ok ds → ds.length = 0 := fun ρ ds e => by cases e; rfl
section
variable {P : Program} {w : World} {K : PySem.W.Frag} {mg : Str → Option Value} {base : Heap} {T : List (Addr × Str)}
theorem start_get {N : List Str} {vs : List V} {i : Nat} {v : V} (h : vs[i]? = some v) : (L2.start N vs)[i]? = some (some v) := by
  unfold L2.start
  have hl : i < vs.length := (List.getElem?_eq_some_iff.mp h).1
  rw [List.getElem?_append_left (by rw [List.length_map]; exact hl), List.getElem?_map, h]; rfl
theorem startS_get {n : Nat} {ds : List D} {i : Nat} {s : Sl} (h : (startS n ds)[i]? = some s) : (∃ d, s = .val d ∧ ds[i]? = some d) ∨ s = .no := by
  unfold startS at h
  by_cases hl : i < ds.length
  · rw [List.getElem?_append_left (by rw [List.length_map]; exact hl), List.getElem?_map] at h
    rw [List.getElem?_eq_getElem hl] at h ⊢
    exact .inl ⟨_, (Option.some.inj h).symm, rfl⟩
  · rw [List.getElem?_append_right (by rw [List.length_map]; omega)] at h
    exact .inr (List.eq_of_mem_replicate (List.mem_of_getElem? h))
theorem fn_mk {x qual : Str} {params : Arguments} {body : List Stmt} {scope : Scope} {a : Addr} {fd : FuncData} {N ps : List Str} {k : Nat} {m : EnvS → Out} (F : FunD K x qual params body scope [] [] a fd) (S : FnScope N ps scope) (hps : ps.length ≤ N.length)
    (hbody : ∀ (cdv : Value) (A : Around) (outer : List Env) (s : Shared) (H : Hp) (E : XK), Room k (A.deeper (envOfC qual scope s.heap.objs.size a cdv)) → PSs (cxOf (L2N.CX P w) P w K mg base N qual scope a cdv A outer s H E) body (tS ⟨K, T, E⟩ m)) :
    FnOk P w K mg base (L2N.CX P w) (k + 1) a fd ps (spD K T ps.length (runB N.length ps.length m)) := by
  refine F.ok S (fun vs H Q E ⟨M, ds, hl, _, _, r, _⟩ => by rw [r.len]; exact hl) fun cdv A outer s H vs Q E hr ⟨M, ds, hl, tb, hid, r, q⟩ => ⟨_, hbody cdv A outer s H E hr, ?_⟩
  have hlv := r.len
  unfold runB at q
  rw [if_pos hl] at q
  refine ⟨groundOf M M H, M, M, startS N.length ds, ⟨tb, fun b o h _ => (groundOf_some h).1, fun a h => h, hid, fun a h => .inl h, fun a ps h => (groundOf_some h).2.2 ps rfl, ?_, fun i d h => ?_, fun i ds' h => ?_, fun i j p di dj h => ?_, TreOk.none fun i t h => by rcases startS_get h with ⟨d', e, h'⟩ | e <;> cases e⟩, ?_⟩
  · unfold L2.start startS
    simp only [List.length_append, List.length_map, List.length_replicate, hlv]
  · rcases startS_get h with ⟨d', e, h'⟩ | e
    · cases e
      obtain ⟨v, h1, h2⟩ := r.get h'
      exact ⟨v, start_get h1, h2⟩
    · cases e
  · rcases startS_get h with ⟨d', e, h'⟩ | e <;> cases e
  · rcases startS_get h with ⟨d', e, h'⟩ | e <;> cases e
  · have up : ∀ {H' : Hp}, ExtN (groundOf M M H) H' → ExtN H H' := fun e b o h n => e b o (groundOf_at h n fun z => z) n
    cases e : m (startS N.length ds) with
    | next ρ' => rw [e] at q; exact fun O σ H' s' => q .non H' ⟨up s'.gnd, s'.tab⟩ (by simp only [RD])
    | ret d => rw [e] at q; exact fun v H' t e r => q v H' ⟨up e, t⟩ r
    | exc c => rw [e] at q; exact fun H' t e => q H' ⟨up e, t⟩
    | brk _ => rw [e] at q; exact q.elim
    | cont _ => rw [e] at q; exact q.elim
    | stk => rw [e] at q; exact q
end
end DL
namespace DL
open PySem PySem.Spec PyProof.Rows L2 LamX
/-! ## sets of tuples whose items are ints and texts (the kit has those of ints alone) -/
abbrev Ent := Addr × List Key
abbrev hOf (P : Program) (w : World) (k : List Key) : Int := tupleKeyHash (mixKind P w) k
abbrev TupAt (P : Program) (w : World) (h : Heap) (k : List Key) (a : Addr) : Prop := IsTupleKey (mixKind P w) h k a
def entRow (P : Program) (w : World) (p : Ent) : Int × Value := (hOf P w p.2, .ref p.1)
section
variable {P : Program} {w : World} {A : Around} {E : Value → Shared → Prop} {s : Shared}
/-! the model's questions about one tuple -/
theorem key_vals {k : List Key} {vs : List Value} (h : ItemsAre (mixKind P w) k vs) : ∀ v ∈ vs, (∃ i t, v = Value.int i t) ∨ ∃ x t, v = Value.str x t := by
  induction h with
  | nil => intro v hv; cases hv
  | cons h1 _ ih =>
    intro v hv
    rcases List.mem_cons.mp hv with rfl | hv
    · rcases keyIs_shape h1 with ⟨i, t, _, e⟩ | ⟨x, t, _, e⟩
      · exact .inl ⟨i, t, e⟩
      · exact .inr ⟨x, t, e⟩
    · exact ih v hv
theorem cls_key (n : Nat) {v : Value} (h : (∃ i t, v = Value.int i t) ∨ ∃ x t, v = Value.str x t) : ofAClassStatement n v = pure false := by
  rcases h with ⟨i, t, rfl⟩ | ⟨x, t, rfl⟩ <;> cases n <;> rfl
theorem hby_key (n : Nat) {v : Value} (h : (∃ i t, v = Value.int i t) ∨ ∃ x t, v = Value.str x t) : ∃ b, hashByValue n v = pure b := by
  rcases h with ⟨i, t, rfl⟩ | ⟨x, t, rfl⟩ <;> cases n <;> exact ⟨_, rfl⟩
theorem cls_tup {k : List Key} {b : Addr} {Q : Bool → Shared → Prop} (hk : TupAt P w s.heap k b) (h : Q false s) : wpAny (model P w) A (ofAClassStatement 8 (.ref b)) Q E s := by
  have ty := hk.typeIs
  obtain ⟨o, its, n, ho, _, hd, hi⟩ := hk
  unfold ofAClassStatement
  refine wpAny_bind (wpAny_typeOf ty ?_)
  dsimp only
  rw [if_pos (by decide)]
  refine wpAny_bind (wpAny_pure ?_)
  rw [if_neg (by decide)]
  show wpAny _ _ (seqItems? (.ref b) >>= _) _ _ s
  refine wpAny_bind (wpAny_seqItems ho hd ?_)
  dsimp only
  refine wpAny_bind ?_
  show wpAny _ _ (forIn its _ _) _ _ s
  rw [← Array.forIn_toList]
  refine wpAny_forIn_list _ (fun rest r z => r.1 = none ∧ z = s ∧ ∀ v ∈ rest, (∃ i t, v = Value.int i t) ∨ ∃ x t, v = Value.str x t) _ (fun v rest r z ⟨hr, e, all⟩ => ?_) (fun r z ⟨hr, e, _⟩ => ?_) _ _ ⟨rfl, rfl, key_vals hi⟩
  · subst e
    rw [cls_key _ (all v List.mem_cons_self)]
    refine wpAny_bind (wpAny_pure ?_)
    rw [if_neg (by decide)]
    exact wpAny_pure ⟨rfl, rfl, fun u hu => all u (List.mem_cons_of_mem _ hu)⟩
  · subst e
    obtain ⟨r1, r2⟩ := r
    obtain rfl : r1 = none := hr
    exact wpAny_pure h
theorem hby_tup {k : List Key} {b : Addr} {Q : Bool → Shared → Prop} (hk : TupAt P w s.heap k b) (h : ∀ f, Q f s) : wpAny (model P w) A (hashByValue 8 (.ref b)) Q E s := by
  have ty := hk.typeIs
  obtain ⟨o, its, n, ho, _, hd, hi⟩ := hk
  unfold hashByValue
  refine wpAny_bind (wpAny_specialOf ty F.slot_tuple_hash.lookup ?_)
  show wpAny _ _ (seqItems? (.ref b) >>= _) _ _ s
  refine wpAny_bind (wpAny_seqItems ho hd ?_)
  refine wpAny_bind ?_
  show wpAny _ _ (forIn its _ _) _ _ s
  rw [← Array.forIn_toList]
  refine wpAny_forIn_list _ (fun rest r z => r.1 = none ∧ z = s ∧ ∀ v ∈ rest, (∃ i t, v = Value.int i t) ∨ ∃ x t, v = Value.str x t) _ (fun v rest r z ⟨hr, e, all⟩ => ?_) (fun r z ⟨hr, e, _⟩ => ?_) _ _ ⟨rfl, rfl, key_vals hi⟩
  · subst e
    obtain ⟨f, e⟩ := hby_key 7 (all v List.mem_cons_self)
    rw [e]
    refine wpAny_bind (wpAny_pure ?_)
    cases f with
    | true =>
      rw [if_neg (by decide)]
      exact wpAny_pure ⟨rfl, rfl, fun u hu => all u (List.mem_cons_of_mem _ hu)⟩
    | false =>
      rw [if_pos (by decide)]
      exact wpAny_pure (wpAny_pure (h false))
  · subst e
    obtain ⟨r1, r2⟩ := r
    obtain rfl : r1 = none := hr
    exact wpAny_pure (h true)
theorem unseen_tup {k : List Key} {b : Addr} {Q : Bool → Shared → Prop} (hk : TupAt P w s.heap k b) {ys : List Value} (hy : ∀ y ∈ ys, ∃ p : Ent, y = .ref p.1 ∧ TupAt P w s.heap p.2 p.1) (h : Q false s) : wpAny (model P w) A (searchCouldBeSeen (.ref b) ys) Q E s := by
  unfold searchCouldBeSeen
  refine wpAny_bind (wpAny_forIn_list _ (fun rest r z => r.1 = none ∧ z = s ∧ ∀ y ∈ rest, ∃ p : Ent, y = .ref p.1 ∧ TupAt P w s.heap p.2 p.1) _ (fun v rest r z ⟨hr, e, all⟩ => ?_) (fun r z ⟨hr, e, _⟩ => ?_) _ _ ⟨rfl, rfl, hy⟩)
  · subst e
    obtain ⟨p, rfl, hc⟩ := all v List.mem_cons_self
    have more : ∀ y ∈ rest, ∃ p : Ent, y = .ref p.1 ∧ TupAt P w z.heap p.2 p.1 := fun u hu => all u (List.mem_cons_of_mem _ hu)
    dsimp only
    by_cases c : (b == p.1 || (carriedByValue (.ref b) && carriedByValue (.ref p.1))) = true
    · exact wp_if_pos c (wpAny_pure ⟨rfl, rfl, more⟩)
    · refine wp_if_neg c (wpAny_bind (wpAny_eqIsQuiet_tuple hk ?_))
      rw [if_neg (by decide)]
      refine wpAny_bind (wpAny_eqIsQuiet_tuple hc ?_)
      rw [if_neg (by decide)]
      refine wpAny_bind (cls_tup hk ?_)
      rw [if_neg (by decide)]
      refine wpAny_bind (cls_tup hc ?_)
      rw [if_neg (by decide)]
      exact wpAny_pure ⟨rfl, rfl, more⟩
  · subst e
    obtain ⟨r1, r2⟩ := r
    obtain rfl : r1 = none := hr
    exact wpAny_pure h
end

/-! the set -/
structure SetM (P : Program) (w : World) (h : Heap) (a : Addr) (L : List Ent) (es : Array (Int × Value)) (ep : Nat) (t : SetTable) : Prop where
  obj : ∃ o, h.get? a = some o ∧ o.ExactSet ∧ o.data = .set es ep t
  rows : es.toList = L.map (entRow P w)
  tab : TabOk t (L.map fun p => hOf P w p.2)
  once : (L.map Prod.snd).Nodup
  tups : ∀ p ∈ L, TupAt P w h p.2 p.1
  led : w.params.followText "set-order" = true ∨ t.led = true
  room : L.length * 5 < t.mask * 3
  few : L.length < 64
/-- the probe behind c steps -/
abbrev stepP (m : Nat) (h : Int) (c : Nat) : SetTable.Probe := nth m (runAt m (SetTable.bits h % (m + 1)) (SetTable.bits h)) c
theorem step_undum (m : Nat) (h : Int) : ∀ c, (stepP m h c).dummy = none
  | 0 => rfl
  | c + 1 => by
    show (nth m _ (c + 1)).dummy = none
    rw [nth_succ]
    unfold adv
    split <;> exact step_undum m h c
/-- what a probe from the c-th step on answers -/
theorem probe_says {t : SetTable} {hs : List Int} (T : TabOk t hs) (hashAt : Nat → Int) (h : Int) {K c : Nat} (hKf : K < 10 * SetTable.turns t.mask) (hK : way t.mask h K ∉ t.place.toList) (hb : ∀ c, c < K → way t.mask h c ∈ t.place.toList) (hc : c ≤ K) :
    (∃ d i, c ≤ d ∧ d < K ∧ t.place.toList[i]? = some (way t.mask h d) ∧ (∀ d' i', c ≤ d' → d' < d → t.place.toList[i']? = some (way t.mask h d') → hashAt i' ≠ h) ∧ t.probe hashAt h (stepP t.mask h c) = some (.candidate (way t.mask h d) i (stepP t.mask h (d + 1)))) ∨
    ((∀ d' i', c ≤ d' → d' < K → t.place.toList[i']? = some (way t.mask h d') → hashAt i' ≠ h) ∧ t.probe hashAt h (stepP t.mask h c) = some (.empty (way t.mask h K) none)) := by
  have at_ : ∀ q, nth t.mask (stepP t.mask h c) q = stepP t.mask h (c + q) := fun q => (nth_add t.mask c _ q).symm
  have put : ∀ {d}, c ≤ d → nth t.mask (stepP t.mask h c) (d - c) = stepP t.mask h d := fun {d} hd => by rw [at_, show c + (d - c) = d by omega]
  rcases go_spec t T.ris T.dm hashAt h (10 * SetTable.turns t.mask) (K - c) (stepP t.mask h c) (step_undum _ _ c) (by omega) (fun q hq => by rw [at_]; exact hb (c + q) (by omega)) (by rw [put hc]; exact hK) with ⟨q, i, h1, h2, _, h4, h5⟩ | ⟨h4, h5⟩
  · rw [at_] at h2
    rw [at_, at_] at h5
    exact .inl ⟨c + q, i, by omega, by omega, h2, fun d' i' g1 g2 g3 => h4 (d' - c) i' (by omega) (by rw [put g1]; exact g3), h5⟩
  · rw [put hc] at h5
    exact .inr ⟨fun d' i' g1 g2 g3 => h4 (d' - c) i' (by omega) (by rw [put g1]; exact g3), h5⟩
section
variable {P : Program} {w : World} {A : Around} {E : Value → Shared → Prop} {s : Shared} {a : Addr} {L : List Ent} {es : Array (Int × Value)} {ep : Nat} {t : SetTable}
theorem rows_size (h : es.toList = L.map (entRow P w)) : es.size = L.length := by
  rw [← Array.length_toList, h, List.length_map]
theorem rows_at (h : es.toList = L.map (entRow P w)) {i : Nat} {p : Ent} (e : L[i]? = some p) : es[i]? = some (hOf P w p.2, .ref p.1) := by
  rw [← Array.getElem?_toList, h, List.getElem?_map, e]; rfl
theorem fits_of (T : TabOk t (L.map fun p => hOf P w p.2)) (h : es.size = L.length) (hf : L.length ≤ t.mask) : t.fits es.size = true := by
  have h1 := T.sz
  rw [List.length_map] at h1
  unfold SetTable.fits SetTable.fill
  rw [T.dm, Bool.and_eq_true, beq_iff_eq, decide_eq_true_eq, h, h1]
  exact ⟨rfl, hf⟩
theorem SetM.fits (R : SetM P w s.heap a L es ep t) : t.fits es.size = true := fits_of R.tab (rows_size R.rows) (by have := R.room; omega)
theorem SetM.search (R : SetM P w s.heap a L es ep t) {x : Addr} {k : List Key} (hx : TupAt P w s.heap k x) (hu : A.units < cLine) {K : Nat} (hKf : K < 10 * SetTable.turns t.mask) (hK : way t.mask (hOf P w k) K ∉ t.place.toList)
    (hb : ∀ c, c < K → way t.mask (hOf P w k) c ∈ t.place.toList) {Q : SetFound → Shared → Prop} (yes : k ∈ L.map Prod.snd → Q (.there none) s) (no : k ∉ L.map Prod.snd → Q (.free (way t.mask (hOf P w k) K) false) s) :
    ∀ (f c : Nat) (st : Option SetTable.Probe), st.getD (t.probeStart (hOf P w k)) = stepP t.mask (hOf P w k) c → c ≤ K → K - c < f →
      (∀ (i : Nat) (p : Ent), L[i]? = some p → p.2 = k → ∃ d, c ≤ d ∧ d < K ∧ t.place.toList[i]? = some (way t.mask (hOf P w k) d)) → wpAny (model P w) A (setSearchFrom a (.ref x) (hOf P w k) true f st) Q E s := by
  intro f
  induction f with
  | zero => intro c st _ _ h; exact absurd h (Nat.not_lt_zero _)
  | succ f ih =>
    intro c st e hc hf ahead
    obtain ⟨o, ho, _, hd⟩ := R.obj
    rw [setSearchFrom_succ]
    refine wpAny_bind (wpAny_setState_of ho hd R.fits ?_)
    dsimp only
    refine wp_if_neg (by unfold SetTable.gaveWay; rw [mask_odd R.tab.mok]; decide) ?_
    try refine wpAny_bind (wpAny_pure ?_)
    have hash : ∀ {i : Nat} {p : Ent}, L[i]? = some p → (es[i]?.map (·.1)).getD 0 = hOf P w p.2 := fun h => by rw [rows_at R.rows h]; rfl
    rw [e]
    rcases probe_says R.tab (fun i => (es[i]?.map (·.1)).getD 0) (hOf P w k) hKf hK hb hc with ⟨d, i, d1, d2, d3, d4, d5⟩ | ⟨d4, d5⟩
    · rw [d5]
      dsimp only
      have il : i < L.length := by
        have h1 := (List.getElem?_eq_some_iff.mp d3).1
        have h2 := R.tab.sz
        rw [List.length_map] at h2
        rwa [Array.length_toList, h2] at h1
      obtain ⟨p, hp⟩ : ∃ p, L[i]? = some p := ⟨_, List.getElem?_eq_getElem il⟩
      have pm := List.mem_of_getElem? hp
      have live := slot_live R.tab.ris d3
      have go : wpAny (model P w) A (searchRest a (.ref x) (hOf P w k) true f es t (way t.mask (hOf P w k) d) i (stepP t.mask (hOf P w k) (d + 1))) Q E s := by
        unfold searchRest
        rw [rows_at R.rows hp]
        dsimp only
        refine wpAny_bind (wpAny_holding (wpAny_eqBool_tuple hu (R.tups p pm) hx (wpAny_bind (wpAny_setState_of ho hd R.fits ?_))))
        dsimp only
        by_cases q : p.2 = k
        · exact wp_if_pos (by simp [q]) (wpAny_pure (yes (List.mem_map.mpr ⟨p, pm, q⟩)))
        · refine wp_if_neg (by simp [q]) ?_
          try refine wpAny_bind (wpAny_pure ?_)
          rw [sameMem]
          dsimp only
          simp only [if_true, live, rows_at R.rows hp]
          refine wpAny_bind (wpAny_isSame_ref_self (wpAny_bind (wpAny_pure ?_)))
          simp only [if_true]
          refine wp_if_neg (by simp [q]) (ih (d + 1) _ rfl d2 (by omega) fun j r hr hk => ?_)
          obtain ⟨d', g1, g2, g3⟩ := ahead j r hr hk
          refine ⟨d', ?_, g2, g3⟩
          rcases Nat.lt_trichotomy d' d with z | z | z
          · exact absurd ((hash hr).trans (congrArg (hOf P w) hk)) (d4 d' j g1 z g3)
          · subst z
            have l2 := slot_live R.tab.ris g3
            rw [live] at l2
            cases l2
            rw [hp] at hr
            cases hr
            exact absurd hk q
          · exact z
      by_cases hl : t.led = true
      · refine wp_if_neg (by simp [hl]) ?_
        try refine wpAny_bind (wpAny_pure ?_)
        exact go
      · refine wp_if_pos (by simp [hl]) (wpAny_bind (unseen_tup hx (fun y hy => ?_) ?_))
        · obtain ⟨e1, m1, rfl⟩ := List.mem_map.mp hy
          have m2 : e1 ∈ es.toList := by
            have : e1 ∈ es ∧ e1.1 = hOf P w k := by simpa using m1
            simpa using this.1
          rw [R.rows] at m2
          obtain ⟨p2, m3, rfl⟩ := List.mem_map.mp m2
          exact ⟨p2, rfl, R.tups p2 m3⟩
        · refine wp_if_neg (by decide) ?_
          try refine wpAny_bind (wpAny_pure ?_)
          exact go
    · rw [d5]
      dsimp only
      refine wpAny_pure (no fun m => ?_)
      obtain ⟨p, m1, m2⟩ := List.mem_map.mp m
      obtain ⟨i, hi, e1⟩ := List.getElem_of_mem m1
      have hp : L[i]? = some p := by rw [List.getElem?_eq_getElem hi, e1]
      obtain ⟨d, g1, g2, g3⟩ := ahead i p hp m2
      exact d4 d i g1 g2 g3 ((hash hp).trans (congrArg (hOf P w) m2))
theorem SetM.find (R : SetM P w s.heap a L es ep t) {x : Addr} {k : List Key} (hx : TupAt P w s.heap k x) (hu : A.units < cLine) {Q : SetFound → Shared → Prop} (yes : k ∈ L.map Prod.snd → Q (.there none) s)
    (no : ∀ K, k ∉ L.map Prod.snd → way t.mask (hOf P w k) K ∉ t.place.toList → (∀ c, c < K → way t.mask (hOf P w k) c ∈ t.place.toList) → Q (.free (way t.mask (hOf P w k) K) false) s) : wpAny (model P w) A (setSearch a (.ref x) (hOf P w k) true) Q E s := by
  obtain ⟨K, k1, k2, k3⟩ := R.tab.first (by rw [List.length_map]; have := R.room; omega) (hOf P w k)
  have big : K < 100000 := by
    unfold SetTable.turns at k1
    rcases R.tab.mok with e | e | e <;> omega
  unfold setSearch
  refine R.search hx hu k1 k2 k3 yes (fun n => no K n k2 k3) 100000 0 none rfl (Nat.zero_le _) (by omega) fun i p hp e => ?_
  have il : i < t.place.toList.length := by
    have h2 := R.tab.sz
    rw [List.length_map] at h2
    rw [Array.length_toList, h2]
    exact (List.getElem?_eq_some_iff.mp hp).1
  obtain ⟨c, c1, c2⟩ := R.tab.before (h := hOf P w k) k2 (by rw [List.getElem?_map, hp, ← e]; rfl) (List.getElem?_eq_getElem il)
  exact ⟨c, Nat.zero_le _, c1, by rw [List.getElem?_eq_getElem il, c2]⟩
/-! laying the table anew -/
theorem pick_rows {α β : Type} (f : α → β) (L : List α) : ∀ order : List Nat, (∀ i ∈ order, i < L.length) → order.filterMap (fun i => (L.map f)[i]?) = (order.filterMap fun i => L[i]?).map f ∧ (order.filterMap fun i => L[i]?).length = order.length
  | [], _ => ⟨rfl, rfl⟩
  | i :: r, h => by
    have hi := h i List.mem_cons_self
    obtain ⟨h1, h2⟩ := pick_rows f L r fun j hj => h j (List.mem_cons_of_mem _ hj)
    rw [List.filterMap_cons_some (b := f L[i]) (by rw [List.getElem?_map, List.getElem?_eq_getElem hi]; rfl), List.filterMap_cons_some (List.getElem?_eq_getElem hi), h1]
    exact ⟨rfl, by simp [h2]⟩
theorem pick_all {α : Type} : ∀ L : List α, (List.range L.length).filterMap (fun i => L[i]?) = L
  | [] => rfl
  | x :: L => by
    rw [List.length_cons, List.range_succ_eq_map, List.filterMap_cons_some (f := fun i => (x :: L)[i]?) (b := x) (by rfl), List.filterMap_map]
    exact congrArg (x :: ·) (pick_all L)
theorem tup_other {h h' : Heap} {k : List Key} {a b : Addr} {o : Obj} {es : Array (Int × Value)} {ep : Nat} {t : SetTable} (hb : TupAt P w h k b) (ho : h.get? a = some o) (hd : o.data = .set es ep t) (hs : Heap.SameBut a h h') : TupAt P w h' k b := by
  obtain ⟨o', its, n, ho', r1, r2, r3⟩ := hb
  refine ⟨o', its, n, (hs.2 b fun e => ?_).trans ho', r1, r2, r3⟩
  subst e
  rw [ho] at ho'
  cases ho'
  rw [hd] at r2
  cases r2
theorem relay_m {o : Obj} (ho : s.heap.get? a = some o) (hex : o.ExactSet) (hd : o.data = .set es ep t) (rows : es.toList = L.map (entRow P w)) (T : TabOk t (L.map fun p => hOf P w p.2)) (hfl : L.length ≤ t.mask) (once : (L.map Prod.snd).Nodup) (tups : ∀ p ∈ L, TupAt P w s.heap p.2 p.1)
    (led : w.params.followText "set-order" = true ∨ t.led = true) (few : L.length < 64) {wanted M : Nat} (hw : SetTable.sizeAbove wanted = M + 1) (hM : MaskOk M) (hn : L.length * 5 < M * 3) {Q : Unit → Shared → Prop}
    (hQ : ∀ h' L' es' ep' t', Heap.SameBut a s.heap h' → SetM P w h' a L' es' ep' t' → L'.Perm L → Q () { s with heap := h' }) : wpAny (model P w) A (setRelay a wanted) Q E s := by
  have sz := rows_size rows
  have hM2 : M ≤ 127 := by rcases hM with e | e | e <;> omega
  obtain ⟨t', order, e1, pm, T', em, el, _, _⟩ := relaid_ok t (hs := es.map (·.1)) (wanted := wanted) (M := M) (by omega) hM (by rw [Array.size_map, sz]; omega)
  rw [Array.size_map, sz] at pm
  have lt : ∀ i ∈ order.toList, i < L.length := fun i hi => List.mem_range.mp (pm.mem_iff.mp hi)
  obtain ⟨r1, r2⟩ := pick_rows (entRow P w) L order.toList lt
  have r3 : (order.filterMap (es[·]?)).toList = (order.toList.filterMap fun i => L[i]?).map (entRow P w) := by
    rw [← r1, ← rows]
    simp [Array.toList_filterMap]
  have p2 : (order.toList.filterMap fun i => L[i]?).Perm L := by
    have := pm.filterMap (fun i => L[i]?)
    rwa [pick_all] at this
  have T2 : TabOk t' ((order.toList.filterMap fun i => L[i]?).map fun p => hOf P w p.2) := by
    have key : ∀ l : List Nat, (∀ i ∈ l, i < L.length) → (l.filterMap fun i => L[i]?).map (fun p => hOf P w p.2) = l.map fun i => (es.map (·.1)).getD i 0 := by
      intro l
      induction l with
      | nil => intro _; rfl
      | cons i r ih =>
        intro h
        have hi := h i List.mem_cons_self
        rw [List.filterMap_cons_some (List.getElem?_eq_getElem hi), List.map_cons, List.map_cons, ih fun j hj => h j (List.mem_cons_of_mem _ hj)]
        congr 1
        rw [Array.getD_eq_getD_getElem?, Array.getElem?_map, rows_at rows (List.getElem?_eq_getElem hi)]; rfl
    rw [key _ lt]; exact T'
  have sz2 : (order.filterMap (es[·]?)).size = es.size := by rw [← Array.length_toList, r3, List.length_map, p2.length_eq, sz]
  rw [setRelay_eq]
  refine wpAny_bind (wpAny_setState_of ho hd (fits_of T sz hfl) ?_)
  dsimp only
  refine wp_if_neg (by rw [sizeLine_eq]; omega) ?_
  try refine wpAny_bind (wpAny_pure ?_)
  rw [e1]
  dsimp only
  refine wpAny_bind (wp_if_neg (by rw [sz2]; simp) ?_)
  try refine wpAny_bind (wpAny_pure ?_)
  refine wpAny_pure ?_
  dsimp only
  refine wpAny_storeSet_of ho hd ?_ (by rw [sz2, sz, sizeLine_eq]; omega)
  have sb : Heap.SameBut a s.heap (s.heap.update a (Obj.putSet (order.filterMap (es[·]?)) t')) := Heap.SameBut.update ..
  exact hQ _ _ _ _ _ sb ⟨⟨_, store_at ho hd, ⟨hex.1, hex.2.1, hex.2.2⟩, rfl⟩, r3, T2, (p2.map Prod.snd).nodup_iff.mpr once, fun p hp => tup_other (tups p (p2.mem_iff.mp hp)) ho hd sb, by rw [el]; exact led, by rw [p2.length_eq, em]; exact hn, by rw [p2.length_eq]; exact few⟩ p2
/-! adding -/
theorem SetM.add (R : SetM P w s.heap a L es ep t) {x : Addr} {k : List Key} (hx : TupAt P w s.heap k x) (hu : A.units < cLine) (few : L.length + 1 < 64) {Q : Bool → Shared → Prop}
    (hQ : ∀ f h' L' es' ep' t', Heap.SameBut a s.heap h' → SetM P w h' a L' es' ep' t' → (k ∈ L.map Prod.snd → L' = L) → (k ∉ L.map Prod.snd → L'.Perm ((x, k) :: L)) → Q f { s with heap := h' }) : wpAny (model P w) A (setAddHashed a (.ref x) (hOf P w k)) Q E s := by
  obtain ⟨o, ho, hex, hd⟩ := R.obj
  have sz := rows_size R.rows
  have room := R.room
  unfold setAddHashed
  refine wpAny_holding ?_
  rw [show (100000 : Nat) = 99999 + 1 from rfl, setAddHashedIn_succ]
  refine wpAny_bind (wpAny_setState_of ho hd R.fits ?_)
  dsimp only
  refine wp_if_neg (by simp [byScan, Value.scannable]) ?_
  try refine wpAny_bind (wpAny_pure ?_)
  refine wpAny_bind (R.find hx hu (fun m => ?_) fun K m hK hb => ?_)
  · exact wpAny_pure (hQ false s.heap L es ep t (.refl a s.heap) R (fun _ => rfl) fun z => absurd m z)
  dsimp only
  refine wpAny_bind (wpAny_setState_of ho hd R.fits ?_)
  dsimp only
  obtain ⟨q1, q2, q3, q4, q5, _, _, _, q9⟩ := R.tab.put hK hb
  generalize t.put (way t.mask (hOf P w k) K) = tp at q1 q3 q4 q5 q9 ⊢
  obtain ⟨t1, p⟩ := tp
  dsimp only at q1 q3 q4 q5 q9 ⊢
  subst q1
  generalize SetTable.below t.place (way t.mask (hOf P w k) K) = p at q2 q3 ⊢
  have pm : (L.take p ++ (x, k) :: L.drop p).Perm ((x, k) :: L) := by
    have h : (L.take p ++ (x, k) :: L.drop p).Perm ((x, k) :: (L.take p ++ L.drop p)) := List.perm_middle
    rwa [List.take_append_drop] at h
  have rows1 : (SetTable.insertAt es p (hOf P w k, Value.ref x)).toList = (L.take p ++ (x, k) :: L.drop p).map (entRow P w) := by
    rw [SetTable.toList_insertAt, R.rows, List.map_append, List.map_cons, List.map_take, List.map_drop]; rfl
  have T1 : TabOk t1 ((L.take p ++ (x, k) :: L.drop p).map fun p => hOf P w p.2) := by
    rw [List.map_append, List.map_cons, List.map_take, List.map_drop]; exact q3
  generalize SetTable.insertAt es p (hOf P w k, Value.ref x) = es1 at rows1 ⊢
  generalize L.take p ++ (x, k) :: L.drop p = L1 at pm rows1 T1
  have len1 : L1.length = L.length + 1 := pm.length_eq
  have sz1 := rows_size rows1
  have once1 : (L1.map Prod.snd).Nodup := (pm.map Prod.snd).nodup_iff.mpr (List.nodup_cons.mpr ⟨m, R.once⟩)
  rw [List.length_map] at q9
  -- the mark of whether all is found by value
  have rest : ∀ t2 : SetTable, TabOk t2 (L1.map fun p => hOf P w p.2) → t2.mask = t.mask → t2.led = t.led → t2.tooFull = t1.tooFull →
      wpAny (model P w) A (do storeSet a es1 t2; if (!false && t2.tooFull) = true then (do setRelay a (SetTable.grown (es.size + 1)); pure true) else pure true) Q E s := fun t2 T2 em el ef => by
    refine wpAny_bind (wpAny_storeSet_of ho hd ?_ (by rw [sz1, len1, sizeLine_eq]; omega))
    have sb : Heap.SameBut a s.heap (s.heap.update a (Obj.putSet es1 t2)) := Heap.SameBut.update ..
    have ho1 := store_at (es' := es1) (t' := t2) ho hd
    generalize s.heap.update a (Obj.putSet es1 t2) = h1 at sb ho1 ⊢
    have tups1 : ∀ p ∈ L1, TupAt P w h1 p.2 p.1 := fun p hp => by
      rcases List.mem_cons.mp (pm.mem_iff.mp hp) with rfl | hp
      · exact tup_other hx ho hd sb
      · exact tup_other (R.tups p hp) ho hd sb
    have led1 : w.params.followText "set-order" = true ∨ t2.led = true := by rw [el]; exact R.led
    have full : t2.tooFull = true ↔ (L.length + 1) * 5 ≥ t.mask * 3 := by
      rw [ef]
      unfold SetTable.tooFull
      rw [decide_eq_true_eq, q9, q4]
    by_cases hf : t2.tooFull = true
    · refine wp_if_pos (by simp [hf]) ?_
      have hfull := full.mp hf
      have go : ∀ M, SetTable.sizeAbove (SetTable.grown (L.length + 1)) = M + 1 → MaskOk M → (L.length + 1) * 5 < M * 3 → wpAny (model P w) A (do setRelay a (SetTable.grown (es.size + 1)); pure true) Q E { s with heap := h1 } := fun M g1 g2 g3 => by
        rw [sz]
        refine wpAny_bind (relay_m (s := { s with heap := h1 }) ho1 ⟨hex.1, hex.2.1, hex.2.2⟩ rfl rows1 T2 (by rw [len1, em]; rcases R.tab.mok with e | e | e <;> rw [e] at room ⊢ <;> omega) once1 tups1 led1 (by omega) g1 g2 (by omega) fun h2 L2 es2 ep2 t3 sb2 R2 pm2 => ?_)
        exact wpAny_pure (hQ true h2 L2 es2 ep2 t3 (sb.trans sb2) R2 (fun z => absurd z m) fun _ => pm2.trans pm)
      rcases R.tab.mok with e | e | e <;> rw [e] at room hfull
      · have : L.length = 4 := by omega
        exact go 31 (by rw [this]; exact size_20) (.inr (.inl rfl)) (by omega)
      · have : L.length = 18 := by omega
        exact go 127 (by rw [this]; exact size_76) (.inr (.inr rfl)) (by omega)
      · omega
    · refine wp_if_neg (by simp [hf]) ?_
      exact wpAny_pure (hQ true h1 L1 es1 (ep + 1) t2 sb ⟨⟨_, ho1, ⟨hex.1, hex.2.1, hex.2.2⟩, rfl⟩, rows1, T2, once1, tups1, led1, by rw [len1, em]; have := mt full.mpr hf; omega, by omega⟩ (fun z => absurd z m) fun _ => pm)
  have same : ∀ b : Bool, wpAny (model P w) A (do storeSet a es1 (if b = true then t1 else { t1 with plain := false }); if (!false && (if b = true then t1 else { t1 with plain := false }).tooFull) = true then (do setRelay a (SetTable.grown (es.size + 1)); pure true) else pure true) Q E s := fun b => by
    cases b with
    | true => exact rest t1 T1 q4 q5 rfl
    | false => exact rest { t1 with plain := false } ⟨T1.ris, T1.dm, T1.sz, T1.mok, T1.bd, T1.reach⟩ q4 q5 rfl
  by_cases hp : t1.plain = true
  · first
      | (refine wpAny_bind ?_; refine wp_if_pos hp ?_; refine hby_tup hx fun f => ?_)
      | refine wp_if_pos hp (wpAny_bind (hby_tup hx fun f => ?_))
    exact same f
  · first
      | (refine wpAny_bind ?_; refine wp_if_neg hp ?_; refine wpAny_pure ?_)
      | refine wp_if_neg hp ?_
    exact same true
end
/-! many added -/
structure From (ks : List Ent) (i : Nat) (L : List Ent) : Prop where
  sub : ∀ p ∈ L, p ∈ ks.take i
  all : ∀ p ∈ ks.take i, p.2 ∈ L.map Prod.snd
  len : L.length ≤ i
theorem From.next {ks L L' : List Ent} {i : Nat} {x : Ent} (g : From ks i L) (h : ks[i]? = some x) (yes : x.2 ∈ L.map Prod.snd → L' = L) (no : x.2 ∉ L.map Prod.snd → L'.Perm (x :: L)) : From ks (i + 1) L' := by
  have e : ks.take (i + 1) = ks.take i ++ [x] := by rw [List.take_succ, h]; rfl
  have le := g.len
  by_cases m : x.2 ∈ L.map Prod.snd
  · rw [yes m]
    refine ⟨fun p hp => by rw [e]; exact List.mem_append_left _ (g.sub p hp), fun p hp => ?_, by omega⟩
    rw [e, List.mem_append, List.mem_singleton] at hp
    rcases hp with z | rfl
    · exact g.all p z
    · exact m
  · have pm := no m
    refine ⟨fun p hp => ?_, fun p hp => ?_, by rw [pm.length_eq, List.length_cons]; omega⟩
    · rw [e, List.mem_append, List.mem_singleton]
      rcases List.mem_cons.mp (pm.mem_iff.mp hp) with z | z
      · exact .inr z
      · exact .inl (g.sub p z)
    · rw [(pm.map Prod.snd).mem_iff, List.map_cons, List.mem_cons]
      rw [e, List.mem_append, List.mem_singleton] at hp
      rcases hp with z | rfl
      · exact .inr (g.all p z)
      · exact .inl rfl
section
variable {P : Program} {w : World} {A : Around} {E : Value → Shared → Prop} {s : Shared}
theorem TupAt.up {h h' : Heap} {k : List Key} {b : Addr} (x : TupAt P w h k b) (e : ∀ c o, h.get? c = some o → h'.get? c = some o) : TupAt P w h' k b := let ⟨o, its, n, ho, r⟩ := x; ⟨o, its, n, e b o ho, r⟩
theorem SetM.up {h h' : Heap} {a : Addr} {L : List Ent} {es : Array (Int × Value)} {ep : Nat} {t : SetTable} (R : SetM P w h a L es ep t) (e : ∀ o, h.get? a = some o → h'.get? a = some o) (tups : ∀ p ∈ L, TupAt P w h' p.2 p.1) : SetM P w h' a L es ep t :=
  let ⟨o, ho, r⟩ := R.obj
  ⟨⟨o, e o ho, r⟩, R.rows, R.tab, R.once, tups, R.led, R.room, R.few⟩
abbrev newSetObj (w : World) : Obj := { cls := .type "set", dict := none, data := .set #[] 0 (.fresh 0 0 (!w.params.followText "set-order")) }
theorem SetM.new {h : Heap} {a : Addr} (ho : h.get? a = some (newSetObj w)) : SetM P w h a [] #[] 0 (.fresh 0 0 (!w.params.followText "set-order")) := by
  refine ⟨⟨_, ho, ⟨rfl, rfl, rfl⟩, rfl⟩, rfl, ⟨List.Pairwise.nil, rfl, rfl, .inl rfl, (fun x hx => (nomatch hx)), (fun i h j hi => (by simp at hi))⟩, List.nodup_nil, (fun p hp => (nomatch hp)), ?_, (by show 0 * 5 < 7 * 3; decide), (by show 0 < 64; decide)⟩
  show _ ∨ (!w.params.followText "set-order") = true
  cases w.params.followText "set-order"
  · exact .inr rfl
  · exact .inl rfl
theorem update_m {I : Addr} {fp wr : List Addr} {G : Array GenState → Array GenState → Prop} {n : Nat} {Pv : Nat → Value → Prop} {St : Nat → Shared → Prop} {R : Result → Shared → Prop} (W : WalksS P w A.in1 I fp wr G n Pv St) (S : Addr) (hSf : S ∉ fp) (ks : List Ent) (hn : n = ks.length) (few : ks.length < 64)
    (hv : ∀ i v, Pv i v → ∃ p, ks[i]? = some p ∧ v = .ref p.1) (h0 : Heap) (hk : ∀ p ∈ ks, TupAt P w h0 p.2 p.1) (hS0 : h0.get? S = none) (hw0 : ∀ b ∈ wr, h0.get? b = none) (hu : A.in1.units < cLine)
    (hR : ∀ s0 s' L es ep t, Moved (S :: wr) G s0 s' → SetM P w s'.heap S L es ep t → From ks n L → (∀ b o, h0.get? b = some o → s'.heap.get? b = some o) → True) :
    ∀ (k i : Nat) (s : Shared), n - i = k → i ≤ n → St i s → (∀ b o, h0.get? b = some o → s.heap.get? b = some o) → (∃ L es ep t, SetM P w s.heap S L es ep t ∧ From ks i L) →
      (∀ s' L es ep t, Moved (S :: wr) G s s' → SetM P w s'.heap S L es ep t → From ks n L → (∀ b o, h0.get? b = some o → s'.heap.get? b = some o) → R (.ok (.ret .none)) s') →
      codeAny (model P w) A (.builtin "set.update.loop" ⟨[.ref S, .ref I], []⟩) R s := by
  have Sw : S ∉ wr := fun h => hSf (W.sub _ h)
  have wid : ∀ b ∈ wr, b ∈ S :: wr := fun b hb => List.mem_cons_of_mem _ hb
  have stay : ∀ {s s' : Shared}, Moved wr G s s' → (∀ b o, h0.get? b = some o → s.heap.get? b = some o) → ∀ b o, h0.get? b = some o → s'.heap.get? b = some o := fun hm g b o e => hm.heap b o (fun z => by rw [hw0 b z] at e; cases e) (g b o e)
  intro k
  induction k with
  | zero =>
    intro i s hk' hi st g ⟨L, es, ep, t, M, Fr⟩ hR
    obtain rfl : i = n := by omega
    refine codeAny_builtin F.entry_set_update_loop ?_
    rw [Around.under_plainId F.plain_set_update_loop _]
    show wpAny _ A.in1 (pyNext (.ref I) >>= _) _ _ s
    refine wpAny_bind (W.done s _ _ st fun s' hm => ?_)
    exact wpAny_pure (hR s' L es ep t (hm.mono wid) (M.up (fun o e => hm.heap S o Sw e) fun p hp => (hk p (List.mem_of_mem_take (Fr.sub p hp))).up (stay hm g)) Fr (stay hm g))
  | succ k ih =>
    intro i s hk' hi st g ⟨L, es, ep, t, M, Fr⟩ hR
    have lt : i < n := by omega
    refine codeAny_builtin F.entry_set_update_loop ?_
    rw [Around.under_plainId F.plain_set_update_loop _]
    show wpAny _ A.in1 (pyNext (.ref I) >>= _) _ _ s
    refine wpAny_bind (W.item i s _ _ lt st fun v s' hP st' hm => ?_)
    obtain ⟨p, hp, rfl⟩ := hv i v hP
    have g' := stay hm g
    have M' := M.up (fun o e => hm.heap S o Sw e) fun q hq => (hk q (List.mem_of_mem_take (Fr.sub q hq))).up g'
    have hx := (hk p (List.mem_of_getElem? hp)).up g'
    show wpAny _ A.in1 (holding [Value.ref p.1] (setAdd S (.ref p.1)) >>= _) _ _ s'
    refine wpAny_bind (wpAny_holding ?_)
    unfold setAdd
    refine wpAny_holding (wpAny_bind (wpAny_pyHash_tuple hu hx ?_))
    refine SetM.add (s := { s' with toks := s'.toks + (p.2.length + 1) }) M' hx hu (by have := Fr.len; omega) fun f h' L' es' ep' t' sb M2 c1 c2 => ?_
    have g2 : ∀ b o, h0.get? b = some o → h'.get? b = some o := fun b o e => (sb.2 b fun z => by rw [z, hS0] at e; cases e).trans (g' b o e)
    refine wpAny_pure ⟨plainId_quiet F.plain_set_update_loop _, ih (i + 1) _ (by omega) lt (W.frame _ s' _ _ st' (Nat.le_add_right _ _) fun b hb o e => ?_) g2 ⟨L', es', ep', t', M2, Fr.next hp c1 c2⟩ fun s2 L2 es2 ep2 t2 hm2 M3 F3 g3 => ?_⟩
    · rw [sb.2 b fun h : b = S => hSf (by rw [← h]; exact hb)]; exact e
    · refine hR s2 L2 es2 ep2 t2 (Moved.trans W.gtrans ((hm.mono wid).then_heap (Nat.le_add_right _ _) fun b o hb e => ?_) hm2) M3 F3 g3
      rw [sb.2 b fun h : b = S => hb (by rw [h]; exact List.mem_cons_self)]; exact e
set_option maxHeartbeats 3200000 in
theorem call_set_m {l : Addr} {items : Array Value} (ks : List Ent) {Q : Value → Shared → Prop} (hh : A.handled = none) (hl : s.heap.IsList l items) (hit : items.toList = ks.map fun p => Value.ref p.1) (hk : ∀ p ∈ ks, TupAt P w s.heap p.2 p.1) (few : ks.length < 64) (hu : A.units + 3 < cLine)
    (h : ∀ (h' : Heap) (tk : Nat) L es ep t, SetM P w h' s.heap.objs.size L es ep t → From ks ks.length L → (∀ b o, s.heap.get? b = some o → h'.get? b = some o) → Q (.ref s.heap.objs.size) { s with heap := h', toks := tk }) :
    wpAny (model P w) A (call (.type "set") [.ref l]) Q E s := by
  have isz : items.size = ks.length := by rw [← Array.length_toList, hit, List.length_map]
  obtain ⟨c, tl, hmro⟩ := F.called_set.mro
  have hmade := F.called_set.made
  have hsub := F.called_set.sub
  refine wpAny_call (codeAny_of_tree ?_)
  show wpAny _ _ (callAny (.type "set") _) _ _ _
  refine wpAny_pure ⟨Code.quiet_builtin _ (by decide +kernel), codeAny_builtin F.entry_type_call ?_⟩
  rw [Around.under_plain (weight_type_call_type "set" [.ref l] []) rfl]
  have h1 := F.called_set.notType
  have h2 := F.called_set.canCreate
  have hct := F.typeCall_set_1 (.ref l)
  repeat (any_goals (first | assumption | wp_step))
  refine codeAny_mono (code_set_led1 (.ref l) (E := E) (Q₁ := fun obj z => obj = .ref s.heap.objs.size ∧ z = { s with heap := s.heap.push { cls := .type "set", dict := none, data := .set #[] 0 (.fresh 0 0 (!w.params.followText "set-order")) } }) (by exact ⟨rfl, rfl⟩)) fun r z hr => ?_
  rcases r with e | fl
  · exact hr
  cases fl with
  | ret obj =>
    obtain ⟨rfl, rfl⟩ := hr
    have nc : (newSetObj w).cls = .type "set" := by rfl
    have hS : (s.heap.push { cls := .type "set", dict := none, data := .set #[] 0 (.fresh 0 0 (!w.params.followText "set-order")) }).get? s.heap.objs.size = some { cls := .type "set", dict := none, data := .set #[] 0 (.fresh 0 0 (!w.params.followText "set-order")) } := Heap.get?_push_size _ (by rfl)
    have hT : Shared.TypeIs { s with heap := s.heap.push { cls := .type "set", dict := none, data := .set #[] 0 (.fresh 0 0 (!w.params.followText "set-order")) } } (.ref s.heap.objs.size) "set" := ⟨_, hS, nc⟩
    have hli := F.called_set.init.lookup
    have hbi := F.called_set.init.bind (.ref s.heap.objs.size)
    repeat (any_goals (first | assumption | wp_step))
    refine codeAny_mono (codeAny_call_builtin (R := wants (fun r z => r = .none ∧ ∃ h' tk L es ep t, z = { s with heap := h', toks := tk } ∧ SetM P w h' s.heap.objs.size L es ep t ∧ From ks ks.length L ∧ (∀ b o, s.heap.get? b = some o → h'.get? b = some o)) E) F.called_set.init.plain F.entry_set_init (check_set_init_1 hT ?_)) fun r2 z2 hr2 => ?_
    · obtain ⟨ol, hol, hcl, nl, hdl⟩ := hl
      obtain ⟨ocls, odict, odata, oslots⟩ := ol
      simp only at hcl hdl
      subst hcl; subst hdl
      have hol' : (s.heap.push { cls := .type "set", dict := none, data := .set #[] 0 (.fresh 0 0 (!w.params.followText "set-order")) }).get? l = some { cls := .type "list", dict := odict, data := .seq items nl, slots := oslots } := Heap.get?_push_of_some _ hol
      have hsls := F.sub_list_set
      have hslf := F.sub_list_frozenset
      have hne : (Value.type "list" == Value.type "dict") = false := by decide
      have hl1 : (s.heap.push { cls := .type "set", dict := none, data := .set #[] 0 (.fresh 0 0 (!w.params.followText "set-order")) }).IsList l items := ⟨_, hol', rfl, nl, rfl⟩
      unfold Builtin.«set.__init__» noKeywords Builtin.Frozenset.updateFrom
      generalize hPI : pyIter = PI
      wp_walk
      subst hPI
      refine wpAny_pyIter_list hl1 ?_
      refine wpAny_bind (wpAny_runValue ?_)
      have ls : l < s.heap.objs.size := Heap.lt_size hol
      have hh3 : A.in1.in1.in1.handled = none := by simp [hh]
      have zp : (s.heap.push { cls := .type "set", dict := none, data := .set #[] 0 (.fresh 0 0 (!w.params.followText "set-order")) }).objs.size = s.heap.objs.size + 1 := Heap.size_push ..
      have lne : l ≠ (s.heap.push { cls := .type "set", dict := none, data := .set #[] 0 (.fresh 0 0 (!w.params.followText "set-order")) }).objs.size := by rw [zp]; exact Nat.ne_of_lt (Nat.lt_succ_of_lt ls)
      have fpn : s.heap.objs.size ∉ [(s.heap.push { cls := .type "set", dict := none, data := .set #[] 0 (.fresh 0 0 (!w.params.followText "set-order")) }).objs.size, l] := by
        rw [zp]; simp only [List.mem_cons, List.not_mem_nil, or_false, not_or]; exact ⟨Nat.ne_of_lt (Nat.lt_succ_self _), Nat.ne_of_gt ls⟩
      have gone : ∀ b, s.heap.objs.size ≤ b → s.heap.get? b = none := fun b hb => by
        cases q : s.heap.get? b with
        | none => rfl
        | some o => exact absurd (Heap.lt_size q) (Nat.not_lt.mpr hb)
      refine update_m ((Walks.list hh3 _ l lne items).toS) s.heap.objs.size fpn ks isz few (fun i v hv => ?_) s.heap hk (gone _ (Nat.le_refl _)) (fun b hb => gone b (by rw [List.mem_singleton.mp hb, zp]; exact Nat.le_succ _)) hu (fun _ _ _ _ _ _ _ _ _ _ => trivial) (items.size - 0) 0 _ (by omega) (Nat.zero_le _)
        ⟨⟨_, Heap.get?_push_size _ rfl, rfl, rfl⟩, (hl1.push _)⟩ (fun b o e => Heap.get?_push_of_some _ (Heap.get?_push_of_some _ e)) ⟨[], #[], 0, .fresh 0 0 (!w.params.followText "set-order"), ?_, ⟨(fun p h => (nomatch h)), (fun p h => (by simp at h)), Nat.le_refl _⟩⟩ fun z L es ep t hm M F g => ?_
      · have q : items.toList[i]? = some v := by rw [Array.getElem?_toList]; exact hv
        rw [hit, List.getElem?_map] at q
        obtain ⟨p, q1, q2⟩ := Option.map_eq_some_iff.mp q
        exact ⟨p, q1, q2.symm⟩
      · skip
        exact SetM.new (Heap.get?_push_of_some _ hS)
      · obtain ⟨h', g2, d', tk', os'⟩ := z
        obtain rfl : g2 = s.gens := hm.gens
        obtain rfl : d' = s.drawn := hm.drawn
        obtain rfl : os' = s.os := hm.os
        show wpAny _ _ _ _ _ _
        refine wpAny_pure ?_
        show wpAny _ _ (ret Value.none) _ _ _
        rw [isz] at F
        exact wpAny_pure ⟨rfl, h', tk', L, es, ep, t, rfl, M, F, g⟩
    · rcases r2 with e | fl2
      · exact hr2
      cases fl2 with
      | ret r =>
        obtain ⟨rfl, h', tk, L, es, ep, t, rfl, M, F, g⟩ := hr2
        repeat (any_goals (first | assumption | wp_step))
        exact h _ _ _ _ _ _ M F g
      | _ => exact hr2.elim
  | _ => exact hr.elim
end
end DL
namespace DL
open PySem PySem.Spec PyProof.Rows L2 LamX
/-! ## len(set(tuples)) -/
/-- a set of tuples, by its one object -/
def SetMO (P : Program) (w : World) (a : Addr) (L : List Ent) : HO := .ext fun h => ∃ (es : Array (Int × Value)) (ep : Nat) (t : SetTable), (∃ o, h.get? a = some o ∧ o.ExactSet ∧ o.data = .set es ep t) ∧ es.toList = L.map (entRow P w) ∧ TabOk t (L.map fun p => hOf P w p.2) ∧
  (w.params.followText "set-order" = true ∨ t.led = true) ∧ L.length * 5 < t.mask * 3 ∧ L.length < 64
theorem setMO_new {P : Program} {w : World} {H : Hp} {h : Heap} {a : Addr} {L : List Ent} {es : Array (Int × Value)} {ep : Nat} {t : SetTable} (R : SetM P w h a L es ep t) : ObjOk P w H h a (SetMO P w a L) := by
  have ⟨o, ho, r⟩ := R.obj
  refine ⟨⟨es, ep, t, ⟨o, ho, r⟩, R.rows, R.tab, R.led, R.room, R.few⟩, ⟨o, ho⟩, fun h1 h2 p k => ?_⟩
  obtain ⟨es', ep', t', ⟨o', ho', r'⟩, q⟩ := p
  exact ⟨es', ep', t', ⟨o', k o' ho', r'⟩, q⟩
theorem refs_back : ∀ {ks : List Ent} {us : List Value}, Vals (ks.map fun p => V.ref p.1) us → us = ks.map fun p => Value.ref p.1
  | [], _, .nil => rfl
  | p :: ks, _, .cons r t => by cases r; rw [refs_back t]; rfl
def rSetM (K : PySem.W.Frag) (P : Program) (w : World) : List V → Hp → VK → Prop := fun xs H Q => ∃ (l : Addr) (ks : List Ent), xs = [V.ref l] ∧ SqL K H l (ks.map fun p => V.ref p.1) ∧ (∀ p ∈ ks, SqT K H p.1 (p.2.map kV)) ∧ ks.length < 64 ∧
  ∀ a L, H a = none → (L.map Prod.snd).Nodup → (∀ p ∈ L, p ∈ ks) → (∀ p ∈ ks, p.2 ∈ L.map Prod.snd) → Q (.ref a) (upd H a (SetMO P w a L))
def rLenM (P : Program) (w : World) : List V → Hp → VK → Prop := fun xs H Q => ∃ a L, xs = [V.ref a] ∧ H a = some (SetMO P w a L) ∧ Q (.int L.length) H
section
variable {X : Cx}
theorem Inv.tupAt {pins : List (Addr × Obj)} {σ : L2.St} {H : Hp} {s : Shared} {b : Addr} {k : List Key} (I : Inv X pins σ H s) (h : SqT X.K H b (k.map kV)) : TupAt X.prog X.w s.heap k b := by
  obtain ⟨its, r, ⟨o, ho, hc, n, hd⟩, _⟩ := I.tuple h
  exact ⟨o, its.toArray, n, ho, hc, hd, by simpa using items_are r⟩
theorem cr_setM (hc : X.calm = true) (hu : X.A.units + 64 < cLine) : CallR X (.type "set") (rSetM X.K X.prog X.w) := by
  intro pins s σ H xs us Q I r h
  obtain ⟨l, ks, rfl, hl, hk, hf, q⟩ := h
  rw [Vals.ref1 r]
  obtain ⟨its, rv, pl, hz⟩ := I.list hl
  have hn : H s.heap.objs.size = none := I.hok.fresh (Nat.le_refl _)
  refine call_set_m (P := X.prog) (w := X.w) ks (I.ok.hd hc) pl.isList (by simpa using refs_back rv) (fun p hp => Inv.tupAt I (hk p hp)) hf (by omega) fun h' tk L es ep t R g k => ?_
  exact ⟨.ref s.heap.objs.size, upd H s.heap.objs.size (SetMO X.prog X.w s.heap.objs.size L), I.laid (t' := tk) k (Nat.le_refl _) (setMO_new R), rfl, q _ L hn R.once (fun p hp => List.mem_of_mem_take (g.sub p hp)) fun p hp => g.all p (by rw [List.take_length]; exact hp)⟩
theorem cr_lenM : CallR X (.builtin "len") (rLenM X.prog X.w) := by
  intro pins s σ H xs us Q I r h
  obtain ⟨a, L, rfl, ha, q⟩ := h
  rw [Vals.ref1 r]
  obtain ⟨es, ep, t, ⟨o, ho, hex, hd⟩, rows, T, led, room, few⟩ := (I.hok a _ ha).1
  have sz := rows_size rows
  refine call_len_set ho hex hd (fits_of T sz (by omega)) (by rw [sz]; omega) ⟨.int L.length, H, I.tok _, ⟨_, by rw [sz]⟩, q⟩
end
/-- the distinct ones -/
def nub {α : Type} [DecidableEq α] : List α → List α
  | [] => [] | x :: r => if x ∈ r then nub r else x :: nub r
theorem mem_nub {α : Type} [DecidableEq α] {y : α} : ∀ {l : List α}, y ∈ nub l ↔ y ∈ l
  | [] => by simp [nub]
  | x :: r => by
    unfold nub
    by_cases h : x ∈ r
    · rw [if_pos h, mem_nub, List.mem_cons]
      exact ⟨.inr, fun z => z.elim (fun e => e ▸ h) id⟩
    · rw [if_neg h, List.mem_cons, List.mem_cons, mem_nub]
theorem nodup_nub {α : Type} [DecidableEq α] : ∀ l : List α, (nub l).Nodup
  | [] => List.nodup_nil
  | x :: r => by
    unfold nub
    by_cases h : x ∈ r
    · rw [if_pos h]; exact nodup_nub r
    · rw [if_neg h]; exact List.nodup_cons.mpr ⟨fun z => h (mem_nub.mp z), nodup_nub r⟩
theorem nub_nodup {α : Type} [DecidableEq α] : ∀ {l : List α}, l.Nodup → nub l = l
  | [], _ => rfl
  | x :: r, h => by
    obtain ⟨h1, h2⟩ := List.nodup_cons.mp h
    unfold nub
    rw [if_neg h1, nub_nodup h2]
theorem nub_le {α : Type} [DecidableEq α] : ∀ l : List α, (nub l).length ≤ l.length
  | [] => Nat.le_refl _
  | x :: r => by
    unfold nub
    have := nub_le r
    split <;> simp <;> omega
theorem nub_eq {α : Type} [DecidableEq α] : ∀ {l : List α}, (nub l).length = l.length → l.Nodup
  | [], _ => List.nodup_nil
  | x :: r, h => by
    unfold nub at h
    by_cases c : x ∈ r
    · rw [if_pos c, List.length_cons] at h
      have := nub_le r
      omega
    · rw [if_neg c, List.length_cons, List.length_cons] at h
      exact List.nodup_cons.mpr ⟨c, nub_eq (Nat.succ.inj h)⟩
def kDs : List D → Option (List Key)
  | [] => some [] | d :: r => (kD d).bind fun k => (kDs r).map (k :: ·)
def tupKs : D → Option (List Key)
  | .tup ds => kDs ds
  | _ => none
def tupsKs : List D → Option (List (List Key))
  | [] => some [] | d :: r => (tupKs d).bind fun k => (tupsKs r).map (k :: ·)
theorem kD_rd {K : PySem.W.Frag} {H : Hp} {v : V} {d : D} {k : Key} (r : RD K H v d) (e : kD d = some k) : v = kV k := by
  cases d with
  | int i => simp only [RD] at r; cases e; exact r
  | str s => simp only [RD] at r; cases e; exact r.1
  | _ => cases e
theorem kDs_rd {K : PySem.W.Frag} {H : Hp} : ∀ {vs : List V} {ds : List D} {ks : List Key}, RDs K H vs ds → kDs ds = some ks → vs = ks.map kV
  | vs, [], ks, r, e => by simp only [RDs] at r; cases e; exact r
  | vs, d :: ds, ks, r, e => by
    simp only [RDs] at r
    obtain ⟨v, us, rfl, h1, h2⟩ := r
    simp only [kDs, Option.bind_eq_some_iff, Option.map_eq_some_iff] at e
    obtain ⟨k, e1, ks', e2, rfl⟩ := e
    rw [List.map_cons, ← kD_rd h1 e1, ← kDs_rd h2 e2]
theorem tupsKs_rd {K : PySem.W.Frag} {H : Hp} : ∀ {vs : List V} {ds : List D} {ks : List (List Key)}, RDs K H vs ds → tupsKs ds = some ks → ∃ es : List Ent, vs = es.map (fun p => V.ref p.1) ∧ es.map Prod.snd = ks ∧ ∀ p ∈ es, TpAt K H p.1 (p.2.map kV)
  | vs, [], ks, r, e => by simp only [RDs] at r; cases e; exact ⟨[], r, rfl, fun p h => nomatch h⟩
  | vs, d :: ds, ks, r, e => by
    simp only [RDs] at r
    obtain ⟨v, us, rfl, h1, h2⟩ := r
    simp only [tupsKs, Option.bind_eq_some_iff, Option.map_eq_some_iff] at e
    obtain ⟨k, e1, ks', e2, rfl⟩ := e
    obtain ⟨es, a1, a2, a3⟩ := tupsKs_rd h2 e2
    cases d with
    | tup xs =>
      simp only [RD] at h1
      obtain ⟨a, ws, rfl, b1, b2, b3⟩ := h1
      refine ⟨(a, k) :: es, by rw [a1]; rfl, by rw [List.map_cons, a2], fun p hp => ?_⟩
      rcases List.mem_cons.mp hp with rfl | hp
      · rw [← kDs_rd b3 e1]; exact b1
      · exact a3 p hp
    | _ => cases e1
def lenSetF : List D → Res D
  | [.lst ds] => (oR (tupsKs ds)).bind fun ks => if ks.length < 64 then .ok (.int (nub ks).length) else .stk
  | _ => .stk
section
variable {X : Cx} {T : List (Addr × Str)} {E : XK} {e : Expr} {pos p p2 pos2 : Pos} {mr : EnvD → Res (List D)} {me : EnvD → Res D}
theorem d_lenSet (hgl : Gl X "len") (hml : X.mg "len" = none) (hgs : Gl X "set") (hms : X.mg "set" = none) (hc : X.calm = true) (hu : X.A.units + 64 < cLine) (ha : PA X [e] (tAD (dc X T E) mr))
    (he : starEach [e] X.env = (false, eval e X.env) :: starEach [] X.env := by rfl) (hpl : (backTo pos2 (starEach [] X.env)).any (·.1) = false := by rfl) (hs2 : starEach [.Call (.Name "set" p2) [e] [] pos2] X.env = (false, eval (.Call (.Name "set" p2) [e] [] pos2) X.env) :: starEach [] X.env := by rfl)
    (hpl2 : (backTo pos (starEach [] X.env)).any (·.1) = false := by rfl) :
    PE X (.Call (.Name "len" p) [.Call (.Name "set" p2) [e] [] pos2] [] pos) (tD (dc X T E) (mCall lenSetF mr)) := by
  refine pe_imp (pe_callB (cr_lenM (X := X)) hgl hml (by rfl) (pa_cons (pe_callTy (cr_setM hc hu) hgs hms (by rfl) ha (he := he) (hpl := hpl)) pa_nil hs2) (he := hs2) (hpl := hpl2)) fun σ H Q ⟨M, ρ, st, q⟩ => ?_
  refine ⟨M, ρ, st, (aft.bind (Rel := RDs X.K) q).imp fun vs H1 ⟨ds, _, e1, r1, q1⟩ => ?_⟩
  unfold lenSetF at q1
  split at q1
  · rename_i ds
    obtain ⟨v, rfl, r2⟩ := rds1 r1
    simp only [RD] at r2
    obtain ⟨a, vs, rfl, hp, hz, hr⟩ := r2
    obtain ⟨ks, e2, q1⟩ := aft_oR q1
    obtain ⟨hl, q1⟩ := aft_if q1
    obtain ⟨es, rfl, rfl, a3⟩ := tupsKs_rd hr e2
    refine ⟨a, es, rfl, .inl (.inl (vis_get hp)), fun p hp => vis_sqT (a3 p hp), by simpa using hl, fun b L hb nd sub all => ?_⟩
    have hLn : L.length = (nub (es.map Prod.snd)).length := by
      have pm : (L.map Prod.snd).Perm (nub (es.map Prod.snd)) := (List.perm_ext_iff_of_nodup nd (nodup_nub _)).mpr fun k => by
        rw [mem_nub]
        constructor
        · intro h
          obtain ⟨p, h1, rfl⟩ := List.mem_map.mp h
          exact List.mem_map.mpr ⟨p, sub p h1, rfl⟩
        · intro h
          obtain ⟨p, h1, rfl⟩ := List.mem_map.mp h
          exact all p h1
      have := pm.length_eq
      rwa [List.length_map] at this
    refine ⟨b, L, rfl, upd_same, ?_⟩
    rw [hLn]
    exact aft_int (q1.ext (.new e1.tab hb)) (e1.trans (.new e1.tab hb)).tab
  · exact q1.elim

/-! ## xs[::-1] -/
def revD : D → Res D
  | .lst xs => .ok (.lst xs.reverse)
  | _ => .stk
theorem d_rev {k : Nat} {p1 p2 p3 : Pos} (he : PE X e (tD (dc X T E) me)) : PE X (.Subscript e (.Slice none none (some (.UnaryOp .USub (.Constant (.int 1) k p1) p2)) p3) pos) (tD (dc X T E) (m1 revD me)) := pe_imp (pe_revL he) fun σ H Q ⟨M, ρ, st, q⟩ => by
  refine ⟨M, ρ, st, (aft.bind (Rel := RD X.K) q).imp fun v H1 ⟨d, _, e1, r1, q1⟩ => ?_⟩
  unfold revD at q1
  split at q1
  · simp only [RD] at r1
    obtain ⟨a, vs, rfl, hp, hz, hr⟩ := r1
    exact ⟨a, vs, rfl, .inl (.inl (vis_get hp)), fun p hn => aft_lst q1 e1.tab (st.hid.ext e1.old) hn (by rw [List.length_reverse]; exact hz) hr.reverse⟩
  · exact q1.elim

/-! ## sorted -/
def leI (i j : Int) : Bool := decide (i ≤ j)
def sortF : List D → Res D
  | [.lst ds] => (oR (asInts ds)).bind fun ns => .ok (.lst ((ns.mergeSort leI).map .int))
  | _ => .stk
theorem sort_ints {ns ns' : List Int} (p : ns'.Perm ns) (h : ns'.Pairwise (· ≤ ·)) : ns' = ns.mergeSort leI := by
  refine List.Perm.eq_of_pairwise (le := (· ≤ ·)) (fun a b _ _ h1 h2 => Int.le_antisymm h1 h2) h ?_ (p.trans (List.mergeSort_perm ns leI).symm)
  refine (List.pairwise_mergeSort (le := leI) (fun a b c h1 h2 => ?_) (fun a b => ?_) ns).imp fun h => of_decide_eq_true h
  · exact decide_eq_true (Int.le_trans (of_decide_eq_true h1) (of_decide_eq_true h2))
  · rcases Int.le_total a b with h | h
    · simp [leI, h]
    · simp [leI, h]
theorem a_sortI : R1D (dc X T E) (rSortedI X.K) sortF := by
  intro M H vs ds Q tb hid r h
  unfold sortF at h
  split at h
  · rename_i ds
    obtain ⟨v, rfl, r2⟩ := rds1 r
    simp only [RD] at r2
    obtain ⟨a, us, rfl, hp, hz, hr⟩ := r2
    obtain ⟨ns, e, h⟩ := aft_oR h
    have ev := asInts_rds e hr
    subst ev
    refine ⟨a, ns, rfl, .inl (.inl (vis_get hp)), fun ns' p pm pw hn => ?_⟩
    rw [sort_ints pm pw]
    refine aft_lst h tb hid hn ?_ (RDs.ints _)
    rw [List.length_map, (List.mergeSort_perm ns leI).length_eq]
    rwa [List.length_map] at hz
  · exact h.elim
end
end DL
namespace DL
open PySem PySem.Spec PyProof.Rows L2 LamX
section
variable {X : Cx} {T : List (Addr × Str)} {E : XK} {pos : Pos}
/-- the module's whole number, text -/
theorem d_gint {x : Str} {i : Int} (h : ∃ t, X.mg x = some (.int i t)) (hg : Gl X x := by rfl) (hd : (x == ("__debug__" : Str)) = false := by decide) : PE X (.Name x pos) (tD (dc X T E) (mC (.int i))) := by
  obtain ⟨t, h⟩ := h
  exact d_glob (v := .int i) hg h ⟨t, rfl⟩ (fun H => by simp only [RD]) hd
theorem d_gstr {x : Str} {s : List Nat} (h : ∃ t, X.mg x = some (.str ⟨s.toArray⟩ t)) (hk : okSB s = true := by rfl) (hg : Gl X x := by rfl) (hd : (x == ("__debug__" : Str)) = false := by decide) : PE X (.Name x pos) (tD (dc X T E) (mC (.str s))) := by
  obtain ⟨t, h⟩ := h
  exact d_glob (v := .str ⟨s.toArray⟩) hg h ⟨t, rfl⟩ (fun H => by simp only [RD]; exact ⟨trivial, okS_of hk⟩) hd
end

theorem pe_tyn {X : Cx} {x : Str} {n : String} {pos : Pos} (hg : Gl X x) (hm : X.mg x = none) (hv : bootBuiltins x = some (.type n)) (hn : x ≠ "__name__" := by decide) (hd : (x == ("__debug__" : Str)) = false := by decide) : PE X (.Name x pos) (tC (.ty n)) := pe_bltn hg hm hv rfl hn hd
theorem bo_len : bootBuiltins "len" = some (.builtin "len") := by decide +kernel
theorem bo_max : bootBuiltins "max" = some (.builtin "max") := by decide +kernel
theorem bo_min : bootBuiltins "min" = some (.builtin "min") := by decide +kernel
theorem bo_sum : bootBuiltins "sum" = some (.builtin "sum") := by decide +kernel
theorem bo_all : bootBuiltins "all" = some (.builtin "all") := by decide +kernel
theorem bo_any : bootBuiltins "any" = some (.builtin "any") := by decide +kernel
theorem bo_sorted : bootBuiltins "sorted" = some (.builtin "sorted") := by decide +kernel
theorem bo_tuple : bootBuiltins "tuple" = some (.type "tuple") := by decide +kernel
theorem bo_list : bootBuiltins "list" = some (.type "list") := by decide +kernel
theorem bo_str : bootBuiltins "str" = some (.type "str") := by decide +kernel
theorem bo_int : bootBuiltins "int" = some (.type "int") := by decide +kernel
theorem bo_bool : bootBuiltins "bool" = some (.type "bool") := by decide +kernel
theorem bo_dict : bootBuiltins "dict" = some (.type "dict") := by decide +kernel
theorem bo_set : bootBuiltins "set" = some (.type "set") := by decide +kernel
section
variable {P : Program} {w : World} {K : PySem.W.Frag} {mg : Str → Option Value} {base : Heap} {T : List (Addr × Str)}
theorem passN {X : Cx} : Passes (L2N.CX X.prog X.w) X E00 := fun _ _ _ _ _ _ _ h => by
  obtain ⟨_, _, _, _, _, _, _, _, _, _, _, _, z⟩ := h
  exact z.elim
theorem fn_run {x qual : Str} {params : Arguments} {body : List Stmt} {scope : Scope} {a : Addr} {fd : FuncData} {N ps : List Str} {k : Nat} {m : EnvS → Out} (F : FunD K x qual params body scope [] [] a fd) (S : FnScope N ps scope) (hps : ps.length ≤ N.length)
    (hbody : ∀ (cdv : Value) (A : Around) (outer : List Env) (s : Shared) (H : Hp) (E : XK), Room k (cxOf (L2N.CX P w) P w K mg base N qual scope a cdv A outer s H E).A → (cxOf (L2N.CX P w) P w K mg base N qual scope a cdv A outer s H E).A.units + 65 < cLine →
      Passes (L2N.CX P w) (cxOf (L2N.CX P w) P w K mg base N qual scope a cdv A outer s H E) E →
      PassesOwn (model P w) (cxOf (L2N.CX P w) P w K mg base N qual scope a cdv A outer s H E).A (cxOf (L2N.CX P w) P w K mg base N qual scope a cdv A outer s H E).env (cxOf (L2N.CX P w) P w K mg base N qual scope a cdv A outer s H E).xe →
      L2N.Takes (cxOf (L2N.CX P w) P w K mg base N qual scope a cdv A outer s H E) (fun cls d _ H' => E cls d H') →
      PSs (cxOf (L2N.CX P w) P w K mg base N qual scope a cdv A outer s H E) body (tS ⟨K, T, E⟩ m)) :
    FnOk P w K mg base (L2N.CX P w) (k + 1) a fd ps (spD K T ps.length (runB N.length ps.length m)) :=
  fn_mk F S hps fun cdv A outer s H E hr => hbody cdv A outer s H E hr (by have := hr.un; show (A.deeper _).units + 65 < cLine; omega) (L2N.passes_call (L2N.takes_of rfl rfl rfl rfl) (fun _ _ _ _ h => h)) (passes_of rfl) (L2N.takes_of rfl rfl rfl rfl)
theorem fn_of {x y qual : Str} {params : Arguments} {body : List Stmt} {scope : Scope} {a : Addr} {fd : FuncData} {ps : List Str} {k : Nat} {f : List D → Res D} (F : FunD K y qual params body scope [] [] a fd) (hm : mg x = some (.ref a)) (hb : Binds K fd ps []) (ok : FnOk P w K mg base (L2N.CX P w) k a fd ps (spD K T ps.length f)) :
    Fn P w K mg base T x k ps.length f := ⟨a, fd, ps, hm, F.kp, hb, rfl, ok⟩
end
end DL
namespace DL
open PySem PySem.Spec PyProof.Rows L2 LamX
/-- a law's end: what the def does on the script -/
theorem lawAt {l : PySem.W.OpenLaw} {w : World} {K : PySem.W.Frag} {k n : Nat} {x : Str} {mg : Str → Option Value} {fa : Addr} {h : Heap} {f : List D → Res D} (fd : FuncData) (hn : n ≤ sizeLine)
    (hb : ∀ (s : Shared) (u : Value), BindsTo s fd ⟨[u], []⟩ [(x, u)]) (hf : ∀ ns : List Int, ns.length ≤ n → (∀ z ∈ ns, Builtin.Int.intBits z ≤ 1048576) → f [.scr ns] = .ok (.bl true))
    (ok : ∀ base : Heap, K.In base → base.Ns mainGlobals mg → FnOk l.prog w K mg base (L2N.CX l.prog w) k fa fd [x] (spD K [] 1 f)) : LawAtS l w K (L2N.CX l.prog w) k n x mg fa h := by
  refine ⟨fd, [], spD K [] 1 f, (fun p hp => (nomatch hp)), (fun p hp => (nomatch hp)), (fun p hp => (nomatch hp)), hb, fun H a ns hl hbits _ hS => ?_, fun base h1 h2 _ => ok base h1 h2⟩
  refine ⟨[], [.scr ns], rfl, (fun z hz => (nomatch hz)), .nil, ?_, ?_⟩
  · rw [hide_nil]
    exact .one (by simp only [RD]; exact ⟨a, rfl, hS, Nat.le_trans hl hn⟩)
  · rw [hf ns hl hbits]
    intro b H' _ r
    simpa only [RD] using r
end DL
namespace DL
open PySem PySem.Spec PyProof.Rows L2 LamX
/-! ## raise -/
/-- what is known of an own class of exceptions -/
structure ExK (K : PySem.W.Frag) (mg : Str → Option Value) (c : String) : Prop where
  gl : mg (Str.ofString c) = some (.ref (He.ga K (Str.ofString c)))
  ex : PySem.W.excIn K (He.ga K (Str.ofString c)) He.veBase "ValueError.__new__" = true
  kp : PySem.W.keepIn K (.ref (He.ga K (Str.ofString c))) = true
  sub : PySem.W.subIn K (.ref (He.ga K (Str.ofString c))) (.type "BaseException") = some true
  ty : PySem.W.typeIn K (.ref (He.ga K (Str.ofString c))) = some (.type "type")
theorem exK_of {K : PySem.W.Frag} {h : Heap} {mg : Str → Option Value} {c : String} (X : K.In h) (G : h.Ns mainGlobals mg) (g : (He.Fa.glo (Str.ofString c)).ok K = true) (e : (He.Fa.exc (Str.ofString c)).ok K = true) : ExK K mg c := by
  obtain ⟨h1, h2, h3, h4⟩ := He.exc_ok e
  exact ⟨He.glo_ok X G g, h1, h2, h3, h4⟩
def sRaise (c : String) : EnvS → Out := fun _ => .exc c
section
variable {X : Cx} {T : List (Addr × Str)} {E : XK} {pos pos' p p2 : Pos}
theorem q_raise {c : String} {m : Str} {j : Nat} (k : ExK X.K X.mg c) (hc : X.calm = true) (tk : L2N.Takes X fun cls d _ H => E cls d H) (hg : Gl X (Str.ofString c) := by rfl) (hdb : (Str.ofString c == ("__debug__" : Str)) = false := by decide) :
    PS X (.Raise (some (.Call (.Name (Str.ofString c) p) [.Constant (.str m) j p2] [] pos)) none pos') (tS (dc X T E) (sRaise c)) :=
  ps_imp (L2N.ps_raise hc tk (L2N.pmk_own PySem.F.excBase_ValueError k.ex k.gl k.kp (raises_own k.sub k.ty) hg hdb)) fun D σ H ⟨G, M, O, ρ, s, h⟩ => h H s.tab s.gnd
end
end DL
namespace DL
open PySem PySem.Spec PyProof.Rows L2 LamX HotX
/-! ## a list walked while an exception is handled -/
section
variable {prog : Program} {w : World} {A : Around} {E : Value → Shared → Prop} {s : Shared}
theorem list_end_hot {it l x1 : Addr} {i : Nat} {items : Array Value} {Q : Option Value → Shared → Prop} (hot : HotAt A x1 s.heap) (hne : x1 ≠ it) (hit : s.heap.IsListIter it l i) (hl : s.heap.IsList l items) (hx : items[i]? = none)
    (hQ : ∀ h', Heap.ExtBut it s.heap h' → Q none { s with heap := h' }) : wpAny (model prog w) A (pyNext (.ref it)) Q E s := by
  obtain ⟨o, ho, hc, hd⟩ := id hit
  obtain ⟨ol, hol, _, nl, hdl⟩ := hl
  obtain ⟨hh, o1, vs1, h1, d1, c1⟩ := hot
  unfold pyNext
  refine wpAny_bind (wpAny_attempt (wpAny_callSpecial?_slot (name := Str.ofString "__next__") hit.typeIs slot_listiter_next
    (wpAny_call_entry slot_listiter_next hit.typeIs entry_listiter_next ?_ (args_listiter_next _))))
  show wpAny _ _ (field (.ref it) 0 >>= _) _ _ s
  refine wpAny_bind (wpAny_field ho hd (x := .ref l) rfl ?_)
  show wpAny _ _ (if (Value.ref l == Value.none) = true then _ else _) _ _ s
  rw [if_neg (show ¬ ((Value.ref l == Value.none) = true) from Bool.false_ne_true)]
  show wpAny _ _ (field (.ref it) 1 >>= _) _ _ s
  refine wpAny_bind (wpAny_field ho hd (x := .int i 0) rfl ?_)
  show wpAny _ _ (seqItems? (.ref l) >>= _) _ _ s
  refine wpAny_bind (wpAny_seqItems hol hdl ?_)
  simp only [Int.toNat_natCast, hx]
  refine wpAny_bind (wpAny_rule (wpAny_bind (wpAny_setField ho hd (by simp) ?_)))
  show wpAny _ _ (newExc (.type "StopIteration") [] >>= _) _ _ _
  refine wpAny_bind ?_
  simp only [newExc, newTuple]
  have k1 : (s.heap.update it (Obj.mapFields (·.setIfInBounds 0 Value.none))).get? x1 = some o1 := by
    rw [Heap.get?_update_other _ _ (Ne.symm hne)]; exact h1
  refine wpAny_bind (wpAny_newObj_type ?_ (by size_fits))
  refine wpAny_bind (m := firstArgMember _ _) (wpAny_of_eq (a := Value.none) (by first | rfl | (simp only [firstArgMember]; rfl)) ?_)
  refine wpAny_newObj_type ?_ (by size_fits)
  refine raiseNew_hot ⟨hh, o1, vs1, Heap.get?_push_of_some _ (Heap.get?_push_of_some _ k1), d1, c1⟩ (Nat.ne_of_lt (Heap.lt_size (Heap.get?_push_of_some _ k1))) (Heap.get?_push_size _ rfl) rfl (by first | (simp; done) | (simp; omega) | (simp only [Array.size_append]; simp; omega)) ?_
  refine wpAny_bind (wpAny_isInstance (T := "StopIteration") (b := true) ⟨_, Heap.get?_update_self _ (Heap.get?_push_size _ rfl) rfl, rfl⟩ isSubtype_stop ?_)
  refine wpAny_pure (hQ _ fun b o hb e => ?_)
  have k2 : (s.heap.update it (Obj.mapFields (·.setIfInBounds 0 Value.none))).get? b = some o := by
    rw [Heap.get?_update_other _ _ (Ne.symm hb)]; exact e
  rw [Heap.get?_update_other _ _ (Nat.ne_of_gt (Heap.lt_size (Heap.get?_push_of_some _ k2)))]
  exact Heap.get?_push_of_some _ (Heap.get?_push_of_some _ k2)
end
end DL
namespace DL
open PySem PySem.Spec PyProof.Rows L2 LamX HotX
section
variable {prog : Program} {w : World} {A : Around}
theorem HotAt.other {A : Around} {x1 I : Addr} {h h' : Heap} (hot : HotAt A x1 h) (e : ∀ o, h.get? x1 = some o → h'.get? x1 = some o) : HotAt A x1 h' :=
  let ⟨hh, o, vs, h1, r⟩ := hot
  ⟨hh, o, vs, e o h1, r⟩
theorem walks_hot {x1 I ax : Addr} (hne : ax ≠ I) (n1 : x1 ≠ I) (items : Array Value) :
    Walks prog w A I [I, ax, x1] [I] items.size (fun i v => items[i]? = some v) (fun i h => h.IsListIter I ax i ∧ h.IsList ax items ∧ HotAt A x1 h) where
  sub := fun b hb => by simp at hb; simp [hb]
  frame := fun _ _ _ st hk => ⟨st.1.at fun o e => hk I (by simp) o e, st.2.1.at fun o e => hk ax (by simp) o e, HotAt.other (I := I) st.2.2 fun o e => hk x1 (by simp) o e⟩
  item := fun i s Q E hi st hQ => by
    refine wpAny_pyNext_list_item st.1 st.2.1 (x := items[i]) (by simp [hi]) fun h' hit' hs' => ?_
    exact hQ _ h' s.toks (by simp [hi]) ⟨hit', st.2.1.extBut hs'.extBut hne, HotAt.other (I := I) st.2.2 fun o e => hs'.extBut x1 o n1 e⟩ fun b o hb e => hs'.extBut b o (fun h => hb (by simp [h])) e
  done := fun s Q E st hQ => list_end_hot st.2.2 n1 st.1 st.2.1 (by simp) fun h' he' => hQ h' s.toks fun b o hb e => he' b o (fun h => hb (by simp [h])) e
  self := fun _ _ _ _ st hQ => wpAny_pyIter_listiter st.1 hQ
end
end DL
namespace DL
open PySem PySem.Spec PyProof.Rows L2 LamX HotX L2H
section
variable {prog : Program} {w : World} {A : Around} {E : Value → Shared → Prop} {s : Shared}
theorem sum_hot {l x1 : Addr} {xs : Array (Int × Tok)} {Q : Value → Shared → Prop} (hot : HotAt A x1 s.heap) (hl : s.heap.IsList l (intItems xs))
    (h : ∀ h' tk t', (∀ b o, s.heap.get? b = some o → h'.get? b = some o) → Q (.int (preSum (numAt xs) xs.size) t') { s with heap := h', toks := tk }) : wpAny (model prog w) A (call (.builtin "sum") [.ref l]) Q E s := by
  have lt1 : x1 < s.heap.objs.size := by obtain ⟨_, o, _, h1, _⟩ := hot; exact Heap.lt_size h1
  refine call_sum_walkG (iter_intList hl fun s2 e st hfp hlI => ?_)
  subst e
  have hot2 : HotAt A.in1 x1 (s.heap.push { cls := .type "list_iterator", data := .fields #[.ref l, .int 0 0] }) := by
    obtain ⟨hh, o, vs, h1, r⟩ := hot
    exact ⟨hh, o, vs, Heap.get?_push_of_some _ h1, r⟩
  refine ⟨_, _, _, _, _, _, numAt xs, rfl, walks_hot (A := A.in1) hlI (Nat.ne_of_lt lt1) (intItems xs), ⟨st.1, st.2, hot2⟩, fun b hb => ?_, (fun _ _ => intItems_at), fun h' tk t' hk => ?_⟩
  · simp only [List.mem_cons, List.not_mem_nil, or_false] at hb
    rcases hb with rfl | rfl | rfl
    · exact hfp _ (by simp)
    · exact hfp _ (by simp)
    · show b < (s.heap.push _).objs.size
      rw [Heap.size_push]; exact Nat.lt_succ_of_lt lt1
  · have := h h' tk t' (old_kept hk)
    simpa [intItems] using this
end
section
variable {X : Cx}
theorem cr_sumH (hc : HotC X) : CallR X (.builtin "sum") (rSum X.K) := by
  intro pins s σ H vs us Q I r h
  obtain ⟨a, ns, rfl, hs, q⟩ := h
  obtain ⟨its, rv, hl, _⟩ := I.list hs
  rw [Vals.ref1 r]
  obtain ⟨x1, hot⟩ := hc.at I
  have hi := rv.ints
  obtain ⟨xs, e⟩ := hi.allInts.items
  have hn : numsOf (intItems xs).toList = ns := by rw [← e]; exact hi.numsOf
  rw [nums_intItems] at hn
  have hl' := hl.isList
  rw [e] at hl'
  refine sum_hot hot hl' fun h' tk t' hk => ?_
  refine ⟨.int _, H, I.kept hk, ⟨_, rfl⟩, ?_⟩
  rw [preSum_eq, List.take_of_length_le (by simp), hn]
  exact q
end
end DL
namespace DL
open PySem PySem.Spec PyProof.Rows L2 LamX HotX L2H
theorem turn_listH {P : Program} {w : World} {K : PySem.W.Frag} {tg : Expr} (a it : Addr) : TurnH P w K tg (Itl K a) [it] it (fun i h => h.IsListIter it a i) := by
  have T := turn_list (P := P) (w := w) (K := K) (tg := tg) a it
  refine ⟨T.mem, T.obj, T.keep, fun X hP hw hK hc i pins s σ H E I hf st hg => ?_, fun X hP hw hK hc i pins s σ H E I hf st hg => ?_, T.self⟩
  · subst hP hw hK
    obtain ⟨xs, x, hq, hx⟩ := hg
    obtain ⟨its, rv, p, hz⟩ := I.list hq
    obtain ⟨u, hu, ru⟩ := rv.get hx
    obtain ⟨f0, f1, f2, f3, f4, f5⟩ := hf it (by simp)
    refine wpAny_pyNext_list_item st p.isList (x := u) (by simpa using hu) fun h' st' sb => ?_
    have I1 : Inv X pins σ H { s with heap := h' } := I.turned (t' := s.toks) (fun b o hb e => (sb.2 b hb).trans e) f0 f1 f3 f4 f5
    obtain ⟨o, e, c, d⟩ := id st'
    exact ⟨u, rfl, go_of (s := { s with heap := h' }) e c d (by decide) ⟨x, H, I1, ru, ⟨rfl, fun ys hy => by rw [I.list_inj hy hq]; exact hx⟩, st', fun b hb => (hf b hb).1⟩⟩
  · subst hP hw hK
    obtain ⟨xs, hq, hx⟩ := hg
    obtain ⟨its, rv, p, hz⟩ := I.list hq
    obtain ⟨f0, f1, f2, f3, f4, f5⟩ := hf it (by simp)
    have hl := rv.length
    obtain ⟨pe, ⟨hh, v1, e1, c1⟩, hp⟩ := hc
    have hot : HotAt X.A pe.1 s.heap := ⟨hh, pe.2, v1, (I.pin pe (List.mem_append_left _ hp)).1, e1, c1⟩
    have ne : pe.1 ≠ it := fun z => f5 pe (List.mem_append_left _ hp) (by first | exact z | exact z.symm)
    exact list_end_hot hot ne st p.isList (by simp; omega) fun h' eb => ⟨rfl, I.turned (t' := s.toks) (fun b o hb e => eb b o hb e) f0 f1 f3 f4 f5⟩
end DL
namespace DL
open PySem PySem.Spec PyProof.Rows L2 LamX HotX L2H
/-! ## a comprehension over a list while an exception is handled -/
abbrev blkH (X : Cx) (s : Shared) (H : Hp) (scope : Scope) (cenv : Env) (fp : List Addr) : Cx := { X.blk s H scope cenv fp with pn := X.pn }
theorem Cx.Ok.pn' {X : Cx} (ok : X.Ok) (pn : List (Addr × Obj)) : ({ X with pn := pn } : Cx).Ok :=
  ⟨ok.mod, ok.kind, ok.glob, ok.blt, ok.above, ok.inj, ok.has, ok.cab, ok.hd, ok.frames, ok.stk, ok.exf, ok.bs, ok.bsz, ok.noex, ok.exfs, ok.funs, ok.frf⟩
theorem Inv.withPn {X : Cx} {σ : L2.St} {H : Hp} {s : Shared} {pn : List (Addr × Obj)} (I : Inv X [] σ H s) (hp : ∀ p ∈ pn, s.heap.get? p.1 = some p.2 ∧ H p.1 = none ∧ p.1 ≠ X.env.locals ∧ p.1 ∉ X.fs ∧ ∀ v, p.2.data ≠ .cell v) : Inv { X with pn := pn } [] σ H s :=
  ⟨Cx.Ok.pn' I.ok pn, I.os, I.bare, I.base, I.loc, I.cell, I.free, I.freeC, fun p h => hp p (by rw [List.append_nil] at h; exact h), I.hok, I.len⟩
/-- a list's iterator, while an exception is handled -/
theorem pi_listH {X : Cx} {tg e : Expr} {te : TE} (he : PE X e te) : PIH X tg e (fun σ H R => te σ H fun x H1 => ∃ a xs, x = .ref a ∧ SqL X.K H1 a xs ∧ R (Itl X.K a) H1) := by
  refine ⟨fun pins s σ H R I h => thn (he.run pins s σ H _ I h) fun v s1 ⟨x, H1, I1, r1, a, xs, ex, hs, q⟩ => ?_⟩
  subst ex
  cases r1
  obtain ⟨its, rv, pl, hz⟩ := I1.list hs
  refine wpAny_pyIter_list pl.isList ?_
  have I2 : Inv X pins σ H1 { s1 with heap := s1.heap.push { cls := .type "list_iterator", data := .fields #[.ref a, .int 0 0] } } := I1.kept (t' := s1.toks) fun b o e => Heap.get?_push_of_some _ e
  refine ⟨s1.heap.objs.size, [s1.heap.objs.size], _, _, H1, rfl, I2, turn_listH a s1.heap.objs.size, ⟨_, Heap.get?_push_size _ rfl, rfl, rfl⟩, fun b hb => ?_, q⟩
  have e : b = s1.heap.objs.size := by simpa using hb
  subst e
  exact I1.fpOk (Nat.le_refl _) (I1.hok.fresh (Nat.le_refl _))
end DL
namespace DL
open PySem PySem.Spec PyProof.Rows L2 LamX HotX L2H
theorem pe_lcH {X : Cx} {elt tg iter : Expr} {ifs : List Expr} {scope : Scope} {own : List (Str × Nat)} {pos : Pos} {wi : TI} {g : TG} {tt : TT} {te : TE} (hc : HotC X) (hN : X.N.Nodup) (hi : PIH X tg iter wi) (ok : BlkOk X.N X.env.scope scope own)
    (hg : ∀ (s : Shared) (H : Hp) (C : Addr) (cl : List (Str × Addr)) (fp : List Addr), PG (blkH X s H scope (compEnvC scope cl C X.env) fp) tg g) (ht : ∀ (s : Shared) (H : Hp) (C : Addr) (cl : List (Str × Addr)) (fp : List Addr), PTs (blkH X s H scope (compEnvC scope cl C X.env) fp) ifs tt)
    (he : ∀ (s : Shared) (H : Hp) (C : Addr) (cl : List (Str × Addr)) (fp : List Addr), PE (blkH X s H scope (compEnvC scope cl C X.env) fp) elt te) (hs : ∀ x, foldedSetIterable iter X.env x = pure x := by intro _; rfl) :
    PE X (.ListComp elt [⟨tg, iter, ifs, 0⟩] scope pos) (tLc wi g tt te (own.map (·.2))) := by
  refine ⟨fun pins s σ H Q I h => ?_⟩
  rw [eval_ListComp]
  have free : ∀ y ∈ scope.names, y.2 = .free → ∃ c, X.env.cells.lookup y.1 = some c := fun y hy e => I.ok.has _ (ok.free y hy e)
  refine wpAny_comprehension_free rfl hs (closure_ok free) ok.kind (fun y hy e => by rw [ok.uniq y hy, e]) (thn (hi.run pins s σ H _ I h) fun xv s1 hx => thn hx fun itv s2 h2 => ?_)
  obtain ⟨it, fp, tn, J, H2, rfl, I2, T, st2, f2, q⟩ := h2
  refine wpAny_newObj_type (newEnv_comp ?_) (by show 0 ≤ sizeLine; decide)
  generalize hD : s2.heap.objs.size = D
  have hDn : H2 D = none := I2.hok.fresh (Nat.le_of_eq hD)
  obtain ⟨W, ⟨m0, w0⟩, turn⟩ := q D hDn
  generalize hs3 : ({ s2 with heap := s2.heap.push { cls := .type "list", data := .seq ([] : List Value).toArray } } : Shared) = s3
  have h3 : s3.heap = s2.heap.push { cls := .type "list", data := .seq ([] : List Value).toArray } := by rw [← hs3]
  have I3 : Inv X pins σ (upd H2 D (.lst [])) s3 := by
    rw [← hs3]
    refine I2.laid (t' := s2.toks) (fun b o e => Heap.get?_push_of_some _ e) (Nat.le_of_eq hD) ⟨Nat.zero_le _, [], 0, .nil, ?_⟩
    rw [← hD]; exact Heap.get?_push_size _ rfl
  have small : ∀ b ∈ fp, b < s2.heap.objs.size := fun b hb => by obtain ⟨o, e, _⟩ := T.obj _ _ st2 b hb; exact Heap.lt_size e
  have f3 : ∀ b ∈ fp, FpOk X pins (upd H2 D (.lst [])) b ∧ b < s3.heap.objs.size := fun b hb => by
    refine ⟨⟨?_, (f2 b hb).2⟩, by rw [h3, Heap.size_push]; exact Nat.lt_succ_of_lt (small b hb)⟩
    rw [upd_ne (by rw [← hD]; exact Nat.ne_of_lt (small b hb))]
    exact (f2 b hb).1
  have st3 : tn 0 s3.heap := T.keep _ _ _ st2 fun b _ o e => by rw [h3]; exact Heap.get?_push_of_some _ e
  have I4 := block_start I3 ok hN f3
  have pg := hg s3 (upd H2 D (.lst [])) s3.heap.objs.size (cellsFrom (s3.heap.objs.size + 1) scope.names (cloFrom X.env.cells scope.names [])) fp
  have pt := ht s3 (upd H2 D (.lst [])) s3.heap.objs.size (cellsFrom (s3.heap.objs.size + 1) scope.names (cloFrom X.env.cells scope.names [])) fp
  have pe := he s3 (upd H2 D (.lst [])) s3.heap.objs.size (cellsFrom (s3.heap.objs.size + 1) scope.names (cloFrom X.env.cells scope.names [])) fp
  have pinX : ∀ p ∈ X.pn, s3.heap.get? p.1 = some p.2 ∧ (upd H2 D (.lst [])) p.1 = none ∧ p.1 ∉ frs X.stack ∧ ∀ v, p.2.data ≠ .cell v := fun p hp => by
    have P1 := I3.pin p (List.mem_append_left _ hp)
    exact ⟨P1.1, P1.2.1, fun hm => (List.mem_cons.mp (I3.stkSub p.1 hm)).elim P1.2.2.1 P1.2.2.2.1, P1.2.2.2.2⟩
  show codeAny _ _ (.compStart (.ListComp elt [⟨tg, iter, ifs, 0⟩] scope pos) 0 (.ref it) (.ref D) (compEnvC scope (cellsFrom (s3.heap.objs.size + 1) scope.names (cloFrom X.env.cells scope.names [])) s3.heap.objs.size X.env)) _ { s3 with heap := pushCells (s3.heap.push { cls := .type "dict", data := .dict #[] }) scope.names }
  have nfp : ∀ b ∈ fp, (upd H2 D (.lst [])) b = none := fun b hb => (f3 b hb).1.1
  generalize hce : compEnvC scope (cellsFrom (s3.heap.objs.size + 1) scope.names (cloFrom X.env.cells scope.names [])) s3.heap.objs.size X.env = ce at I4 pg pt pe ⊢
  have cL : ce.locals = s3.heap.objs.size := by subst hce; rfl
  generalize hH3 : upd H2 D (.lst []) = H3 at I3 I4 pg pt pe w0 nfp f3 pinX
  generalize hs4 : ({ s3 with heap := pushCells (s3.heap.push { cls := .type "dict", data := .dict #[] }) scope.names } : Shared) = s4 at I4 ⊢
  have up4 : ∀ b o, s3.heap.get? b = some o → s4.heap.get? b = some o := fun b o e => by rw [← hs4]; exact pushCells_keeps _ _ _ _ (Heap.get?_push_of_some _ e)
  have J4 : Inv (blkH X s3 H3 scope ce fp) [] (wipe σ (own.map (·.2))) H3 s4 := Inv.withPn I4 fun p hp => by
    obtain ⟨p1, p2, p3, p4⟩ := pinX p hp
    exact ⟨up4 _ _ p1, p2, by rw [show (X.blk s3 H3 scope ce fp).env.locals = s3.heap.objs.size from cL]; exact Nat.ne_of_lt (Heap.lt_size p1), p3, p4⟩
  have hcB : HotC (blkH X s3 H3 scope ce fp) := hc
  have st4 : tn 0 s4.heap := T.keep _ _ _ st3 fun b _ o e => up4 b o e
  have stat : ∀ {σ' : L2.St} {H' : Hp} {s' : Shared}, Inv (blkH X s3 H3 scope ce fp) [] σ' H' s' → (∀ b ∈ fp, H' b = none) → ∀ b ∈ fp, FpOk (blkH X s3 H3 scope ce fp) [] H' b := fun {σ' H' s'} I' hn b hb =>
    ⟨hn b hb, (I'.ok.exf b hb).1, I'.ok.exfs b hb, .inl hb, fun x c e => (I'.ok.exf b hb).2 x c e, fun p hp => (f3 b hb).1.2.2.2.2.2 p (List.mem_append_left _ (by rw [List.append_nil] at hp; exact hp))⟩
  refine codeAny_compStart_list ?_ (T.self X.A 0 _ _ _ st4 ?_)
  all_goals
    refine compLoop_any (fun n s' => ∃ i H', Inv (blkH X s3 H3 scope ce fp) [] (wipe σ (own.map (·.2))) H' s' ∧ tn i s'.heap ∧ (∀ b ∈ fp, H' b = none) ∧ W i n H') ?_ m0 ⟨0, H3, J4, st4, nfp, w0⟩
    rintro n s5 ⟨i, H5, I5, st5, n5, w5⟩
    rcases turn i n H5 w5 with ⟨stop, qq⟩ | ⟨go, Nx, hNx, step⟩
    · refine thnF (T.done (blkH X s3 H3 scope ce fp) rfl rfl rfl hcB i [] s5 _ H5 (fun _ _ => False) I5 (stat I5 n5) st5 stop) fun r s6 ⟨hr, I6⟩ => ?_
      subst hr
      have I7 : Inv X pins σ H5 s6 := I3.call' (ch := fp) I6.os I6.base I6.hok I6.bare fun b hb => ⟨(f3 b hb).1.2.2.2.1, (f3 b hb).1.2.1, (f3 b hb).1.2.2.2.2.1, (f3 b hb).1.2.2.2.2.2⟩
      have nC : H5 s3.heap.objs.size = none := by
        have z : H5 ce.locals = none := I6.free
        rwa [cL] at z
      obtain ⟨m, hn, _⟩ := I6.loc
      have hn : s6.heap.Ns ce.locals m := hn
      rw [cL] at hn
      obtain ⟨f0, f1, f2, f3, f4, f5⟩ := I3.fpOk (b := s3.heap.objs.size) (H' := H5) (Nat.le_refl _) nC
      refine ⟨m, hn, fun h'' sb => ?_⟩
      exact ⟨.ref D, H5, I7.turned (t' := s6.toks) (fun b o hb e => (sb.2 b hb).trans e) f0 f1 f3 f4 f5, rfl, qq⟩
    · refine thnF (T.item (blkH X s3 H3 scope ce fp) rfl rfl rfl hcB i [] s5 _ H5 (fun _ _ => False) I5 (stat I5 n5) st5 go) fun r s6 ⟨u, hr, h6⟩ => ?_
      subst hr
      refine thnF h6 fun _ s7 ⟨x, H7, I7, r7, y7, st7, n7⟩ => ?_
      refine thnF (pg.run _ s7 _ H7 x u _ (I7.pinned (stat I7 n7) (T.obj _ _ st7)) r7 (step x H7 y7)) fun _ s8 ⟨σ8, H8, I8, hw8, q8⟩ => ?_
      refine thnF (pt.run _ s8 σ8 H8 _ I8 q8) fun b s9 ⟨H9, I9, q9⟩ => ?_
      have fin : ∀ {s' : Shared} {H' : Hp}, Inv (blkH X s3 H3 scope ce fp) ([] ++ pinsAt fp s7.heap) σ8 H' s' → Nx H' → ∃ m, m < n ∧ ∃ i H', Inv (blkH X s3 H3 scope ce fp) [] (wipe σ (own.map (·.2))) H' s' ∧ tn i s'.heap ∧ (∀ b ∈ fp, H' b = none) ∧ W i m H' := fun {s' H'} I' nx => by
        obtain ⟨m', hm, w'⟩ := hNx H' nx
        have pin' : ∀ b ∈ fp, ∀ o, s7.heap.get? b = some o → s'.heap.get? b = some o ∧ H' b = none := fun b hb o e =>
          let z := I'.pin (b, o) (List.mem_append_right _ (List.mem_append_right _ (mem_pinsAt hb e)))
          ⟨z.1, z.2.1⟩
        have hl : (wipe σ (own.map (·.2))).length = σ8.length := by rw [← hw8, wipe_length]
        refine ⟨m', hm, i + 1, H', (I'.unpinned (pins := [])).weak hl (fun j v e => ?_), T.keep _ _ _ st7 fun b hb o e => (pin' b hb o e).1, fun b hb => ?_, w'⟩
        · rw [← hw8] at e; exact (wipe_some e).1
        · obtain ⟨o, e, _⟩ := T.obj _ _ st7 b hb
          exact (pin' b hb o e).2
      cases b with
      | false =>
        simp only [Bool.false_eq_true, if_false] at q9 ⊢
        exact fin I9 q9
      | true =>
        simp only [if_true] at q9 ⊢
        refine thnF (pe.run _ s9 σ8 H9 _ I9 q9) fun z s10 ⟨yv, H10, I10, r10, acc, hD10, hz10, nx⟩ => ?_
        exact app_ok (X := blkH X s3 H3 scope ce fp) I10 hD10 hz10 r10 fun s11 I11 => fin I11 nx
end DL
namespace DL
open PySem PySem.Spec PyProof.Rows L2 LamX HotX L2H
/-! ## isinstance of the exception that is handled -/
theorem call_isX {X : Cx} {a D : Addr} {oe : Obj} (C : ExcC X.K D) (hp : (a, oe) ∈ X.pn) (hz : Zc (.ref D) none oe) (hf : ∃ vs, oe.data = .fields vs) : CallR X (.builtin "isinstance") (rIsE X.K D a) := by
  intro pins s σ H xs us Q I r h
  obtain ⟨c, cv, b, rfl, hcv, e, q⟩ := h
  cases r with
  | cons rx rr =>
    cases rr with
    | cons rt rr =>
      cases rr
      cases rx
      have ec := hcv _ rt
      subst ec
      obtain ⟨hget, _⟩ := I.pin (a, oe) (List.mem_append_left _ hp)
      obtain ⟨vs, hv⟩ := hf
      have J : PySem.W.InstAt s.heap a oe D none := by
        obtain ⟨oc, od, oda, osl⟩ := oe
        obtain ⟨h1, h2⟩ := hz
        dsimp only at h1 h2 hv
        subst h1 h2 hv
        exact ⟨hget, rfl, rfl, trivial⟩
      exact PySem.W.kia_one (PySem.W.handS_kitx_exc C.hg C.hk C.hs C.hd C.ha C.hn C.ht C.hm) I.kIn J e (fun z => nomatch z) fun tk => ⟨.bl b, H, I.kept (t' := tk) fun _ _ z => z, rfl, q⟩
end DL
namespace DL
open PySem PySem.Spec PyProof.Rows L2 LamX HotX L2H
/-- the answer b of the exception at a -/
def isXF (a : Addr) (b : Bool) : D → Res D
  | .ref a' => if a' = a then .ok (.bl b) else .stk
  | _ => .stk
section
variable {X : Cx} {T : List (Addr × Str)} {E : XK} {e c : Expr} {pos p : Pos} {me : EnvD → Res D}
theorem d_isX {a D : Addr} {oe : Obj} {cv : V} {u : Value} {b : Bool} (hg : Gl X "isinstance") (hm : X.mg "isinstance" = none) (C : ExcC X.K D) (hp : (a, oe) ∈ X.pn) (hz : Zc (.ref D) none oe) (hf : ∃ vs, oe.data = .fields vs) (hk : PySem.W.kitOne X.K (.ref D) u = some b) (hu : ∀ w, RelV cv w → w = u)
    (ha : PE X e (tD (dc X T E) me)) (ht : PE X c (tC cv)) (he : starEach [e, c] X.env = (false, eval e X.env) :: starEach [c] X.env := by rfl) (hpl : (backTo pos (starEach [c] X.env)).any (·.1) = false := by rfl) (hs1 : starEach [c] X.env = (false, eval c X.env) :: starEach [] X.env := by rfl)
    (hv : bootBuiltins "isinstance" = some (.builtin "isinstance") := by decide +kernel) :
    PE X (.Call (.Name "isinstance" p) [e, c] [] pos) (tD (dc X T E) (m1 (isXF a b) me)) := by
  refine pe_imp (pe_callB (call_isX C hp hz hf) hg hm hv (pa_cons ha (pa_cons ht pa_nil hs1) he) (he := he) (hpl := hpl)) fun σ H Q ⟨M, ρ, st, q⟩ => ?_
  refine ⟨M, ρ, st, (aft.bind (Rel := RD X.K) q).imp fun v H1 ⟨d, _, e1, r1, q1⟩ => ?_⟩
  unfold isXF at q1
  split at q1
  · rename_i a'
    obtain ⟨e2, q2⟩ := aft_if q1
    subst e2
    simp only [RD] at r1
    subst r1
    exact ⟨cv, u, b, rfl, hu, hk, aft_bl q2 e1.tab⟩
  · exact q1.elim
end
end DL
namespace DL
open PySem PySem.Spec PyProof.Rows L2 LamX HotX L2H
/-! ## a lambda handed to a def that calls it; exceptions as ExcCtx has them -/
/-- the lambda's body, entered at s from the frames outer -/
def lamN (X : Cx) (A : Around) (outer : List Env) (s : Shared) (H : Hp) (E : XK) (scope : Scope) (f c' : Addr) : Cx :=
  (lamCx X A outer s H E scope f c').wish fun e s' =>
    wpAny (model X.prog X.w) (A.deeper (lamEnv X scope s.heap.objs.size f c')) (leaving (lamEnv X scope s.heap.objs.size f c') e)
      (fun _ s'' => L2N.CX X.prog X.w outer H s E e s'') (fun e' s'' => L2N.CX X.prog X.w outer H s E e' s'') s'
/-- the def that calls the lambda: entered where the lambda was made -/
abbrev giv (X : Cx) (CXg : CXT) (Eg : XK) (Ng : List Str) (qg : Str) (sg : Scope) (g : Addr) (cdg : Value) (s : Shared) (H : Hp) : Cx := cxOf CXg X.prog X.w X.K X.mg X.base Ng qg sg g cdg X.A X.stack s H Eg
theorem lamN_takes {X : Cx} {A : Around} {outer : List Env} {s : Shared} {H : Hp} {E : XK} {scope : Scope} {f c' : Addr} : L2N.Takes (lamN X A outer s H E scope f c') fun cls d _ H => E cls d H :=
  L2N.takes_of (X := lamN X A outer s H E scope f c') rfl rfl rfl rfl
/-- what the making of the lambda at f has left -/
structure Made (X : Cx) (H : Hp) (s : Shared) (params : Arguments) (body : Expr) (scope : Scope) (f c' : Addr) (pm ctv : Value) : Prop where
  obj : s.heap.get? f = some (PySem.W.kla_obj "<lambda>" (X.env.qual ++ "<lambda>") params body scope (cloFrom X.env.cells scope.names []) pm c' ctv)
  none_ : H f = none
  nofr : f ∉ frs X.stack
abbrev NoArgs (params : Arguments) (body : Expr) (scope : Scope) : Prop := ∀ (q : Str) (cl : List (Str × Addr)) (pm cv ctv : Value), bindArgs (PySem.W.kla_fn "<lambda>" q params body scope cl pm cv ctv) ⟨[], []⟩ = pure []
section
variable {X : Cx} {pins : List (Addr × Obj)} {σ : L2.St} {H : Hp} {s : Shared}
/-- the lambda is called by the name a of the def that got it -/
theorem pe_lamN {CXg : CXT} {Eg : XK} {Ng : List Str} {qg : Str} {sg : Scope} {g f c' : Addr} {cdg pm ctv : Value} {params : Arguments} {body : Expr} {scope : Scope} {k i : Nat} {a : Str} {pn : List (Addr × Obj)} {xe : Value → Shared → Prop} {W : WX} {E : XK} {tb : TE} {p1 p2 : Pos}
    (I : Inv X pins σ H s) (L : LamS X.env.scope scope) (m : Made X H s params body scope f c' pm ctv) (hbind : NoArgs params body scope)
    (tk : L2N.Takes ((giv X CXg Eg Ng qg sg g cdg s H).tr pn xe) W) (hW : ∀ cls d σ' H', E cls d H' → W cls d σ' H') (hr : Room (k + 1) (X.A.deeper (envOfC qg sg s.heap.objs.size g cdg)))
    (hbody : ∀ (A : Around) (outer : List Env) (s : Shared) (H : Hp), Room k (A.deeper (lamEnv X scope s.heap.objs.size f c')) → PE (lamN X A outer s H E scope f c') body tb)
    (hN : Ng[i]? = some a) (hv : Vis sg a) (hd : (a == ("__debug__" : Str)) = false := by decide) (hcd : (a == ("__classdict__" : Str)) = false := by decide) :
    PE ((giv X CXg Eg Ng qg sg g cdg s H).tr pn xe) (.Call (.Name a p1) [] [] p2) (fun σZ HZ Q => σZ[i]? = some (some (.ref f)) ∧ HZ c' = some (CodeO c' (X.env.qual ++ "<lambda>")) ∧ tb σ HZ Q) := by
  refine ⟨fun pinsZ sZ σZ HZ Q IZ ⟨hs, hc, ht⟩ => wpAny_Call_Name_kw (thn ((pe_var (pos := p1) (i := i) hN hv hd hcd).run pinsZ sZ σZ HZ (fun v H1 => v = .ref f ∧ H1 = HZ) IZ ⟨.ref f, hs, rfl, rfl⟩) fun u s1 ⟨v, H1, I1, r1, ev, eH⟩ => ?_)⟩
  subst ev
  rw [eH] at I1
  have eu : u = Value.ref f := r1
  subst eu
  have of1 := I1.base.keep f _ m.obj m.none_ m.nofr (fun z => nomatch (show f ∈ ([] : List Addr) from z))
  obtain ⟨⟨oc, vs, t, hoc, hdc, hvc⟩, _, _⟩ := I1.hok c' _ hc
  have rc : codeAny (model X.prog X.w) (X.A.deeper (envOfC qg sg s.heap.objs.size g cdg)) (.call (.ref f) ⟨[], []⟩) (CR (L2N.CX X.prog X.w) (envOfC qg sg s.heap.objs.size g cdg :: X.stack) X.prog X.w HZ s1 Q E) s1 := by
    refine PySem.W.kla_callFunE hr.depth of1 rfl L.co L.gen rfl ⟨c', oc, vs, t, rfl, hoc, hdc, hvc⟩ ?_
    rw [hbind]
    refine wpAny_pure (wpAny_newFunctionEnv (fun y hy => (L.own y hy).2) (fun y hy => absurd hy (by simp)) (fun h₁ hns hsb => ⟨I1.nolimit.fresh _ hsb, PySem.W.kla_codeExpr ?_⟩) L.kind)
    have kp : ∀ b o, s1.heap.get? b = some o → h₁.get? b = some o := fun b o e => hsb.extBut b o (Nat.ne_of_lt (Heap.lt_size e)) (Heap.get?_push_of_some _ e)
    have J := (lam_start2 (tk := s1.toks + ([] : List (Str × Value)).length) (E := E) (c' := c') (f := f) I L I1.env0 hr.hd I1.base hns kp).wish fun e s' =>
      wpAny (model X.prog X.w) ((X.A.deeper (envOfC qg sg s.heap.objs.size g cdg)).deeper (lamEnv X scope s1.heap.objs.size f c')) (leaving (lamEnv X scope s1.heap.objs.size f c') e)
        (fun _ s'' => L2N.CX X.prog X.w (envOfC qg sg s.heap.objs.size g cdg :: X.stack) HZ s1 E e s'') (fun e' s'' => L2N.CX X.prog X.w (envOfC qg sg s.heap.objs.size g cdg :: X.stack) HZ s1 E e' s'') s'
    exact wpAny_mono ((hbody _ _ s1 HZ (hr.deeper _)).run [] _ _ HZ Q J ht) (fun v s' ⟨w', H', J', rv, q⟩ => ⟨w', H', J'.os, J'.bare, J'.base, J'.hok, rv, q⟩) fun e s' hq => hq
  have hx := L2N.passes_call tk hW
  refine PySem.W.callWith_F0 ⟨_, _, _, _, of1⟩ (wpAny_call (codeAny_mono rc fun r s' hq => ?_))
  match r, hq with
  | .error e, hq => exact hx pinsZ σZ HZ s1 e s' I1 hq
  | .ok (.ret u), hq => exact I1.after hq
  | .ok .next, hq => exact hq.elim
  | .ok .brk, hq => exact hq.elim
  | .ok .cont, hq => exact hq.elim
end
/-- what the def makes of the lambda's reading -/
abbrev TLam := (XK → Hp → VK → Prop) → Hp → VK → Prop
/-- the def at g with the one parameter a does TT of the lambda that it gets -/
def Gives (X : Cx) (Ng : List Str) (x : Str) (sg : Scope) (g : Addr) (cdg : Value) (bg : List Stmt) (a q : Str) (kg : Nat) (TT : TLam) : Prop :=
  ∀ (f c' : Addr) (s : Shared) (H : Hp) (Q : VK) (tl : XK → Hp → VK → Prop), Room kg (X.A.deeper (envOfC x sg s.heap.objs.size g cdg)) →
    (∀ (W : WX) (pn : List (Addr × Obj)) (xe : Value → Shared → Prop) (E : XK) (p1 p2 : Pos), L2N.Takes ((giv X C8.CX0 C8.E0 Ng x sg g cdg s H).tr pn xe) W → (∀ cls d σ' H', E cls d H' → W cls d σ' H') →
      PE ((giv X C8.CX0 C8.E0 Ng x sg g cdg s H).tr pn xe) (.Call (.Name a p1) [] [] p2) (fun σZ HZ Q => σZ[0]? = some (some (.ref f)) ∧ HZ c' = some (CodeO c' q) ∧ tl E HZ Q)) →
    H c' = some (CodeO c' q) → TT tl H Q →
    ∃ t, PSs (giv X C8.CX0 C8.E0 Ng x sg g cdg s H).nox bg t ∧ t { nx := fun _ H' => Q .non H', rt := Q } (L2.start Ng [.ref f]) H
section
variable {X : Cx}
theorem pe_given {T : List (Addr × Str)} {TT : TLam} {x a : Str} {g c P : Addr} {k : Nat} {pg : Arguments} {bg : List Stmt} {sg : Scope} {fd : FuncData} {Ng : List Str} {params : Arguments} {body : Expr} {scope : Scope} {t : XK → TE} {p lpos pos : Pos}
    (F : FunD X.K x x pg bg sg [] [] g fd) (hb : L2.Binds X.K fd [a] []) (hg : Gl X x) (hm : X.mg x = some (.ref g)) (Sg : FnScope Ng [a] sg) (hNg : Ng[0]? = some a) (hva : Vis sg a) (hG : ∀ cdv, Gives X Ng x sg g cdv bg a (X.env.qual ++ "<lambda>") (k + 1) TT)
    (TB : TabB X.base X.mg c P) (hcode : X.env.code = .ref c) (hmT : (P, X.env.qual ++ "<lambda>") ∈ T) (hu : ∀ p ∈ T, p.1 = P → p.2 = X.env.qual ++ "<lambda>") (hr : Room (k + 2) X.A) (L : LamS X.env.scope scope) (hdef : defaultsOf params X.env = ([], [])) (hbind : NoArgs params body scope)
    (hbody : ∀ (A : Around) (outer : List Env) (s : Shared) (H : Hp) (E : XK) (f c' : Addr), Room k (A.deeper (lamEnv X scope s.heap.objs.size f c')) → PE (lamN X A outer s H E scope f c') body (t E))
    (hdb : (x == ("__debug__" : Str)) = false := by decide) (hd : (a == ("__debug__" : Str)) = false := by decide) (hcd : (a == ("__classdict__" : Str)) = false := by decide) :
    PE X (.Call (.Name x p) [.Lambda params body scope lpos] [] pos) (tLam T TT t) := by
  obtain ⟨oc, od, dV, kV, doc, pm, an, cdv, ct, osl, rfl, lk, hcg, _, _⟩ := F.ex
  refine ⟨fun pins s σ H Q I ⟨hT, h⟩ => wpAny_Call_Name_kw (ld_glob I hg hm ?_ hdb)⟩
  refine PySem.W.callWith_K I.ok.mod.kin F.kp ?_ (by rfl) (by rfl)
  show wpAny _ _ (spliced ((false, eval (.Lambda params body scope lpos) X.env) :: backTo pos (starEach [] X.env))) _ _ s
  refine Calls.spliced_cons (lam_make2 I TB hcode hmT hu hT hdef (L.has I.ok) fun f c' pm' ctv H1 s' I1 eN T1 hf hfn hfr hco => Calls.spliced_nil ⟨I1.kIn, ?_⟩)
  have rc : codeAny (model X.prog X.w) X.A (.call (.ref g) ⟨[.ref f], []⟩) (CR C8.CX0 X.stack X.prog X.w H1 s' Q C8.E0) s' := by
    refine run_ofS (N := Ng) (ps := [a]) (us := [.ref f]) (vs := [.ref f]) lk hcg Sg hr I1.env0 (hb s' [.ref f] I1.kIn rfl) (.cons rfl .nil) rfl fun hr' => ?_
    obtain ⟨t', ht', hq'⟩ := hG cdv f c' s' H1 Q (fun E H' Q' => t E σ H' Q') hr' (fun W pn xe E p1 p2 tk hW => pe_lamN (i := 0) I1 L ⟨hf, hfn, hfr⟩ hbind tk hW hr' (fun A outer s H hr2 => hbody A outer s H E f c' hr2) hNg hva hd hcd) hco (h H1 eN T1)
    exact ⟨t', ht'.nox, hq'⟩
  refine wpAny_call (codeAny_mono rc fun r s2 hq => ?_)
  match r, hq with
  | .error e, hq => exact (show False from hq).elim
  | .ok (.ret u), hq => exact I1.after hq
  | .ok .next, hq => exact hq.elim
  | .ok .brk, hq => exact hq.elim
  | .ok .cont, hq => exact hq.elim
end
end DL
namespace DL
open PySem PySem.Spec PyProof.Rows L2 LamX HotX L2H
/-! ## xs.index(x) -/
def asL : D → Res (List D)
  | .lst ds => .ok ds
  | _ => .stk
def mL1 (f : List D → D → Res D) (ma mb : EnvD → Res D) : EnvD → Res D := fun ρ => (ma ρ).bind fun a => (asL a).bind fun z => (mb ρ).bind (f z)
def indexL (ds : List D) (d : D) : Res D := if (D.lst ds).rk ≤ 60 ∧ d.rk ≤ 60 then (oR (ds.findIdx? fun z => D.eqv z d)).bind fun j => .ok (.int (j : Nat)) else .stk
section
variable {X : Cx} {T : List (Addr × Str)} {E : XK} {e o : Expr} {ma mb : EnvD → Res D}
/-- a method of a list with one argument -/
theorem d_mL1 {name : Str} {id : String} {apos cpos : Pos} {r : V → List V → Hp → VK → Prop} {f : List D → D → Res D} (slot : Slot "list" name id) (ty : typeOf (.builtin id) = pure (.type "method_descriptor")) (hm : MtR X id r)
    (hr : ∀ M H x ds y b Q, Tabs T H → HidOk M H → RD X.K (hide M H) x (.lst ds) → RD X.K (hide M H) y b → aft (dc X T E) M H (RD X.K) (f ds b) Q → r x [y] H Q)
    (ho : PE X o (tD (dc X T E) ma)) (ha : PE X e (tD (dc X T E) mb)) (hbase : attributeBase o name X.env (eval o X.env) = eval o X.env := by rfl)
    (hfew : ((backTo cpos (starEach [e] X.env)).all (fun x => !x.1) && (backToKw cpos (keywordEach [] X.env)).all (fun x => x.1.isSome) && decide ([e].length + ([] : List Keyword).length + (if ([] : List Keyword).isEmpty then 0 else 1) < 30)) = true := by rfl)
    (hline : (apos.endLine == cpos.line) = true := by rfl) (hse : starEach [e] X.env = (false, eval e X.env) :: starEach [] X.env := by rfl) (hplain : (backTo cpos (starEach [] X.env)).any (·.1) = false := by rfl) :
    PE X (.Call (.Attribute o name apos) [e] [] cpos) (tD (dc X T E) (mL1 f ma mb)) :=
  pe_imp (pe_bm PySem.F.plainAttrs_list slot ty hm ho (pa_cons ha pa_nil hse) hbase hfew hline hse hplain) fun σ H Q ⟨M, ρ, st, q⟩ => by
    refine ⟨M, ρ, st, (aft.bind (Rel := RD X.K) q).imp fun x H1 ⟨a, _, e1, ra, h1⟩ => ?_⟩
    cases a with
    | lst ds =>
      have rb := ra
      simp only [RD] at rb
      obtain ⟨p, vs, rfl, hp, _, _⟩ := rb
      exact ⟨.inl ⟨rfl, vs, .of (vis_get hp)⟩, M, ρ, st.ext e1, (aft.bind (Rel := RD X.K) h1).imp fun y H2 ⟨b, _, e2, rb, h2⟩ => hr M H2 _ ds y b Q e2.tab ((st.hid.ext e1.old).ext e2.old) (ra.ext (hide_mono M e2.old)) rb h2⟩
    | _ => exact h1.elim
theorem toPys_get : ∀ (ds : List D) (i : Nat), (toPys ds)[i]? = (ds[i]?).map D.toPy
  | [], i => by simp [toPys]
  | d :: ds, 0 => by simp [toPys]
  | d :: ds, i + 1 => by simp [toPys, toPys_get ds i]
theorem d_index {apos cpos : Pos} (hu : X.A.units + 65 < cLine) (ho : PE X o (tD (dc X T E) ma)) (ha : PE X e (tD (dc X T E) mb)) (hbase : attributeBase o "index" X.env (eval o X.env) = eval o X.env := by rfl)
    (hfew : ((backTo cpos (starEach [e] X.env)).all (fun x => !x.1) && (backToKw cpos (keywordEach [] X.env)).all (fun x => x.1.isSome) && decide ([e].length + ([] : List Keyword).length + (if ([] : List Keyword).isEmpty then 0 else 1) < 30)) = true := by rfl)
    (hline : (apos.endLine == cpos.line) = true := by rfl) (hse : starEach [e] X.env = (false, eval e X.env) :: starEach [] X.env := by rfl) (hplain : (backTo cpos (starEach [] X.env)).any (·.1) = false := by rfl) :
    PE X (.Call (.Attribute o "index" apos) [e] [] cpos) (tD (dc X T E) (mL1 indexL ma mb)) :=
  d_mL1 PySem.F.slot_list_index PySem.F.type_list_index (mt_indexD hu) (fun M H x ds y b Q tb hid rx ry q => by
    unfold indexL at q
    obtain ⟨⟨h1, h2⟩, q⟩ := aft_if q
    obtain ⟨j, hj, q⟩ := aft_oR q
    obtain ⟨p1, s1⟩ := (rx.ext (hide_le M H)).shaped h1
    obtain ⟨p2, s2⟩ := (ry.ext (hide_le M H)).shaped h2
    simp only [RD] at rx
    obtain ⟨a, vs, rfl, _, _, _⟩ := rx
    simp only [D.toPy] at p1 s1
    obtain ⟨hl, hz, hn⟩ := List.findIdx?_eq_some_iff_getElem.mp hj
    refine ⟨a, y, b.toPy, toPys ds, j, (ds[j]).toPy, rfl, rfl, p1, p2, s1, s2, by rw [toPys_get, List.getElem?_eq_getElem hl]; rfl, hz, fun m z' hm hz' => ?_, aft_int q tb⟩
    rw [toPys_get] at hz'
    have hml : m < ds.length := Nat.lt_trans hm hl
    rw [List.getElem?_eq_getElem hml] at hz'
    cases hz'
    have := hn m hm
    simpa [D.eqv] using this) ho ha hbase hfew hline hse hplain
end
/-! ## a comprehension while an exception is handled -/
section
variable {X : Cx} {T : List (Addr × Str)} {E : XK} {tg iter elt e : Expr} {ifs : List Expr} {pos : Pos} {scope : Scope} {own : List (Str × Nat)} {mt : EnvD → Res Bool} {me mi : EnvD → Res D} {g : Tg}
theorem pih_imp {t t' : TI} (h : PIH X tg iter t) (i : ∀ σ H R, t' σ H R → t σ H R) : PIH X tg iter t' := ⟨fun pins s σ H R I q => h.run pins s σ H R I (i σ H R q)⟩
theorem i_listH (h : PE X e (tD (dc X T E) me)) : PIH X tg e (tI (dc X T E) (iOf iterF me)) := pih_imp (pi_listH h) fun σ H R ⟨M, ρ, st, q⟩ => by
  refine ⟨M, ρ, st, (aft_toI (Rel := RD X.K) q).imp fun x H1 ⟨d, _, e1, r1, q1⟩ => ?_⟩
  cases d with
  | lst ds =>
    simp only [RD] at r1
    obtain ⟨a, vs, rfl, hp, hz, hr⟩ := r1
    exact ⟨a, vs, rfl, .of (vis_get hp), q1 _ H1 (.refl e1.tab) (iter_list hp hz hr)⟩
  | _ => exact q1.elim
theorem d_lcH (hc : HotC X) (hN : X.N.Nodup) (hi : PIH X tg iter (tI (dc X T E) (iOf iterF mi))) (ok : BlkOk X.N X.env.scope scope own) (hsub : ∀ i ∈ g.slots, i ∈ own.map (·.2))
    (hg : ∀ (s : Shared) (H : Hp) (C : Addr) (cl : List (Str × Addr)) (fp : List Addr), PG (blkH X s H scope (compEnvC scope cl C X.env) fp) tg (tgD ⟨X.K, T, E00⟩ g))
    (ht : ∀ (s : Shared) (H : Hp) (C : Addr) (cl : List (Str × Addr)) (fp : List Addr), PTs (blkH X s H scope (compEnvC scope cl C X.env) fp) ifs (tTD ⟨X.K, T, E00⟩ mt))
    (he : ∀ (s : Shared) (H : Hp) (C : Addr) (cl : List (Str × Addr)) (fp : List Addr), PE (blkH X s H scope (compEnvC scope cl C X.env) fp) elt (tD ⟨X.K, T, E00⟩ me)) (hs : ∀ x, foldedSetIterable iter X.env x = pure x := by intro _; rfl) :
    PE X (.ListComp elt [⟨tg, iter, ifs, 0⟩] scope pos) (tD (dc X T E) (mOfL (fLc (own.map (·.2)) g (iOf iterF mi) mt me))) := d_fresh (pe_imp (pe_lcH hc hN hi ok hg ht he hs) (lc_imp hsub))
end
/-! ## the word of the exception that is handled -/
/-- the classes that isinstance is asked about: what K says of them -/
structure ClsX (K : PySem.W.Frag) (cs : List String) : Prop where
  ec : ∀ c ∈ cs, ExcC K (He.ga K (Str.ofString c))
  kit : ∀ c ∈ cs, ∀ d ∈ cs, PySem.W.kitOne K (.ref (He.ga K (Str.ofString c))) (.ref (He.ga K (Str.ofString d))) = some (c == d)
  ve : ∀ c ∈ cs, PySem.W.kitOne K (.ref (He.ga K (Str.ofString c))) (.type "ValueError") = some true
  exm : ∀ c ∈ cs, PySem.W.exmOne K (.ref (He.ga K (Str.ofString c))) (.ref (He.ga K "DialError")) = some true
  gl : ∀ c ∈ cs, PySem.W.nsIn K mainGlobals (Str.ofString c) = some (some (.ref (He.ga K (Str.ofString c))))
  exq : ∀ c ∈ cs, ∀ d ∈ cs, PySem.W.exmOne K (.ref (He.ga K (Str.ofString c))) (.ref (He.ga K (Str.ofString d))) = some (c == d)
def excCB (K : PySem.W.Frag) (D : Addr) : Bool :=
  decide (PySem.W.findIn K (.ref D) "__getattribute__" = some (some (.builtin "BaseException.__getattribute__"))) && (decide (PySem.W.findIn K (.ref D) "__getattr__" = some none) && (decide (PySem.W.subIn K (.ref D) (.type "BaseException") = some true) &&
  (PySem.W.hasDictIn K D && (decide (PySem.W.findIn K (.ref D) "__class__" = some (some (.builtin "object.__class__"))) && (decide (PySem.W.specialIn K (.builtin "object.__class__") "__get__" = some (some (.builtin "getset_descriptor.__get__"))) &&
  (decide (PySem.W.takesIn K (.builtin "object.__class__") = some true) && decide (PySem.W.mroIn K D (.type "object") = some true)))))))
theorem excCB_ok {K : PySem.W.Frag} {D : Addr} (h : excCB K D = true) : ExcC K D := by
  unfold excCB at h
  simp only [Bool.and_eq_true, decide_eq_true_eq] at h
  obtain ⟨h1, h2, h3, h4, h5, h6, h7, h8⟩ := h
  exact ⟨h1, h2, h3, h4, h5, h6, h7, h8⟩
def clsXB (cs : List String) (K : PySem.W.Frag) : Bool :=
  cs.all fun c => excCB K (He.ga K (Str.ofString c)) && (cs.all (fun d => decide (PySem.W.kitOne K (.ref (He.ga K (Str.ofString c))) (.ref (He.ga K (Str.ofString d))) = some (c == d))) &&
    (decide (PySem.W.kitOne K (.ref (He.ga K (Str.ofString c))) (.type "ValueError") = some true) && (decide (PySem.W.exmOne K (.ref (He.ga K (Str.ofString c))) (.ref (He.ga K "DialError")) = some true) &&
    (decide (PySem.W.nsIn K mainGlobals (Str.ofString c) = some (some (.ref (He.ga K (Str.ofString c))))) && cs.all (fun d => decide (PySem.W.exmOne K (.ref (He.ga K (Str.ofString c))) (.ref (He.ga K (Str.ofString d))) = some (c == d))))))) 
theorem clsXB_ok {K : PySem.W.Frag} {cs : List String} (h : clsXB cs K = true) : ClsX K cs := by
  unfold clsXB at h
  rw [List.all_eq_true] at h
  have h' : ∀ c ∈ cs, _ := fun c hc => by
    have := h c hc
    simp only [Bool.and_eq_true, decide_eq_true_eq, List.all_eq_true] at this
    exact this
  exact ⟨fun c hc => excCB_ok (h' c hc).1, fun c hc d hd => (h' c hc).2.1 d hd, fun c hc => (h' c hc).2.2.1, fun c hc => (h' c hc).2.2.2.1, fun c hc => (h' c hc).2.2.2.2.1, fun c hc d hd => (h' c hc).2.2.2.2.2 d hd⟩
end DL
namespace DL
open PySem PySem.Spec PyProof.Rows L2 LamX HotX L2H
section
variable {P : Program} {w : World} {K : PySem.W.Frag} {mg : Str → Option Value} {base : Heap} {T : List (Addr × Str)}
/-- the slots at a def's start -/
theorem start_S {N : List Str} {H : Hp} {M : List Addr} {E : XK} {vs : List V} {ds : List D} (tb : Tabs T H) (hid : HidOk M H) (r : RDs K (hide M H) vs ds) : StS ⟨K, T, E⟩ (groundOf M M H) M M (L2.start N vs) (startS N.length ds) H := by
  have hlv := r.len
  refine ⟨tb, fun b o h _ => (groundOf_some h).1, fun a h => h, hid, fun a h => .inl h, fun a ps h => (groundOf_some h).2.2 ps rfl, ?_, fun i d h => ?_, fun i ds' h => ?_, fun i j p di dj h => ?_, TreOk.none fun i t h => by rcases startS_get h with ⟨d', e, h'⟩ | e <;> cases e⟩
  · unfold L2.start startS
    simp only [List.length_append, List.length_map, List.length_replicate, hlv]
  · rcases startS_get h with ⟨d', e, h'⟩ | e
    · cases e
      obtain ⟨v, h1, h2⟩ := r.get h'
      exact ⟨v, start_get h1, h2⟩
    · cases e
  · rcases startS_get h with ⟨d', e, h'⟩ | e <;> cases e
  · rcases startS_get h with ⟨d', e, h'⟩ | e <;> cases e
theorem start_aft {H : Hp} {M : List Addr} {E : XK} {Q : VK} {r : Out} (q : aft ⟨K, T, E⟩ M H (RD K) (toRes r) Q) : aftS ⟨K, T, E⟩ (groundOf M M H) M r { nx := fun _ H' => Q .non H', rt := Q } := by
  have up : ∀ {H' : Hp}, ExtN (groundOf M M H) H' → ExtN H H' := fun e b o h n => e b o (groundOf_at h n fun z => z) n
  cases r with
  | next ρ' => exact fun O σ H' s' => q .non H' ⟨up s'.gnd, s'.tab⟩ (by simp only [RD])
  | ret d => exact fun v H' t e r => q v H' ⟨up e, t⟩ r
  | exc c => exact fun H' t e => q H' ⟨up e, t⟩
  | brk _ => exact q.elim
  | cont _ => exact q.elim
  | stk => exact q
/-- the def at f says the word of the exception that is handled -/
def FnW (P : Program) (w : World) (K : PySem.W.Frag) (mg : Str → Option Value) (base : Heap) (T : List (Addr × Str)) (k : Nat) (f : Addr) (fd : FuncData) (x : Str) (wd : String → Option (List Nat)) : Prop :=
  ∀ (A : Around) (outer : List Env) (s : Shared) (H : Hp) (args : Args) (Q : VK) (p : Addr × Obj) (c : String) (z : List Nat), RoomH k A → Hot1 A p → PinOk outer H s p → Zc (.ref (He.ga K (Str.ofString c))) none p.2 → (∃ vs, p.2.data = .fields vs) → wd c = some z →
    Env0 P w K mg base A outer s H → BindsTo s fd args [(x, .ref p.1)] → Tabs T H → (∀ H', ExtT ⟨K, T, E00⟩ H H' → Q (.str ⟨z.toArray⟩) H') → codeAny (model P w) A (.call (.ref f) args) (CR C8.CX0 outer P w H s Q C8.E0) s
/-- the context of its body -/
abbrev cxW (P : Program) (w : World) (K : PySem.W.Frag) (mg : Str → Option Value) (base : Heap) (N : List Str) (qual : Str) (scope : Scope) (f : Addr) (cdv : Value) (A : Around) (outer : List Env) (s : Shared) (H : Hp) (p : Addr × Obj) : Cx := cxH C8.CX0 P w K mg base N qual scope f cdv A outer s H C8.E0 p
theorem fnw_mk {y qual x : Str} {params : Arguments} {body : List Stmt} {scope : Scope} {f : Addr} {fd : FuncData} {N : List Str} {k : Nat} {m : Addr → String → EnvS → Out} {wd : String → Option (List Nat)} (F : FunD K y qual params body scope [] [] f fd) (S : FnScope N [x] scope)
    (hden : ∀ a c z, wd c = some z → runB N.length 1 (m a c) [.ref a] = .ok (.str z))
    (hbody : ∀ (cdv : Value) (A : Around) (outer : List Env) (s : Shared) (H : Hp) (p : Addr × Obj) (c : String) (z : List Nat), RoomH k (cxW P w K mg base N qual scope f cdv A outer s H p).A → (cxW P w K mg base N qual scope f cdv A outer s H p).A.units + 65 < cLine → HotC (cxW P w K mg base N qual scope f cdv A outer s H p) →
      wd c = some z → Zc (.ref (He.ga K (Str.ofString c))) none p.2 → (∃ vs, p.2.data = .fields vs) → PSs (cxW P w K mg base N qual scope f cdv A outer s H p) body (tS ⟨K, T, E00⟩ (m p.1 c))) :
    FnW P w K mg base T (k + 1) f fd x wd := by
  obtain ⟨oc, od, dV, kV, doc, pm, an, cdv, ct, osl, rfl, lk, hcd, _, _⟩ := F.ex
  intro A outer s H args Q p c z hr hot hpin hz hf hw e0 hb tb q
  have KX : K.In s.heap := e0.mod.kin.keeps fun b o e => (e0.bs b o e).1
  have lim : s.heap.NoLimit := e0.mod.nolimit.keeps fun b o e => (e0.bs b o e).1
  have hkind : ∀ y ∈ [x].zip [Value.ref p.1], scope.names.lookup y.1 = some .local ∨ (scope.names.lookup y.1 = some .cell ∧ ((cellsFrom (s.heap.objs.size + 1) scope.names []).lookup y.1).isSome = true) := fun ⟨n, v⟩ hy => by
    rcases S.par n (List.of_mem_zip hy).1 with q | q
    · exact .inl q
    · exact .inr ⟨q, PySem.W.cellsFrom_some _ _ _ (.inl q)⟩
  refine codeAny_call_function hr.depth (KX _ _ lk) rfl S.co S.gen rfl (PySem.W.codeRec_of KX hcd) (hb _ _ _ _ ?_)
  refine wpAny_newFunctionEnv_cells S.kind hkind fun env he s1 x1 => ?_
  subst he
  refine ⟨lim.keeps x1.toInCall.keep, codeAny_func ?_⟩
  have hrb : RoomH k (cxW P w K mg base N qual scope f cdv A outer s H p).A := hr.deeper _
  have hp := hbody cdv A outer s H p c z hrb (by have := hrb.un; omega) ⟨p, hot, List.mem_cons_self⟩ hw hz hf
  have I : Inv (cxW P w K mg base N qual scope f cdv A outer s H p) [] (L2.start N [.ref p.1]) H s1 := inv_startH (us := [.ref p.1]) S hpin e0 rfl (.cons rfl .nil) x1
  have r : RDs K (hide [] H) [.ref p.1] [.ref p.1] := .one (by simp only [RD])
  have hd := hden p.1 c z hw
  unfold runB at hd
  rw [if_pos (show ([D.ref p.1] : List D).length = 1 from rfl)] at hd
  refine wpAny_mono (hp.run [] s1 (L2.start N [.ref p.1]) H _ I ⟨_, _, _, _, start_S (M := []) tb .nil r, start_aft (Q := Q) (r := m p.1 c (startS N.length [.ref p.1])) ?_⟩) (fun fl s' hs => ?_) fun e s' hs => ?_
  · rw [hd]
    intro v H' e rv
    simp only [RD] at rv
    rw [rv.1]
    exact q H' e
  · have fin : ∀ {σ' : L2.St} {H' : Hp} {v : V} {u : Value}, Inv (cxW P w K mg base N qual scope f cdv A outer s H p) [] σ' H' s' → RelV v u → Q v H' → CE outer P w H s Q u s' :=
      fun {σ' H' v u} J rv q => ⟨v, H', J.os, J.bare, J.base, J.hok, rv, q⟩
    match fl, hs with
    | .ret u, ⟨v, σ', H', J, rv, q⟩ => exact fin J rv q
    | .next, ⟨σ', H', J, q⟩ => exact fin (v := V.non) (u := Value.none) J rfl q
    | .brk, ⟨_, _, _, q⟩ => exact q.elim
    | .cont, ⟨_, _, _, q⟩ => exact q.elim
  · exact hs
end
/-- what is known of the def that tells, and of the word's -/
def TellK (P : Program) (w : World) (K : PySem.W.Frag) (mg : Str → Option Value) (base : Heap) (T : List (Addr × Str)) (k : Nat) (cs : List String) (wd : String → Option (List Nat)) : Prop :=
  ∃ (g gw : Addr) (fd fdw : FuncData) (pg : Arguments) (sg : Scope) (xw : Str) (p1 p2 p3 p4 p5 p6 p7 p8 p9 q1 : Pos),
    FunD K "_law_told" "_law_told" pg [.Try [.Return (some (.Call (.Name "_law_deed" p1) [] [] p2)) p3] [.ExceptHandler (some (.Name "DialError" p4)) (some "_law_e") [.Return (some (.Call (.Name "_law_word" p5) [.Name "_law_e" p6] [] p7)) p8] p9] [] [] q1] sg [] [] g fd ∧
    Binds K fd ["_law_deed"] [] ∧ mg "_law_told" = some (.ref g) ∧ FnScope ["_law_deed", "_law_e"] ["_law_deed"] sg ∧ Vis sg "_law_deed" ∧ sg.names.lookup ("_law_e" : Str) = some .local ∧ sg.names.lookup ("DialError" : Str) = some .globalImplicit ∧ sg.names.lookup ("_law_word" : Str) = some .globalImplicit ∧
    mg "DialError" = some (.ref (He.ga K "DialError")) ∧ mg "_law_word" = some (.ref gw) ∧ PySem.W.keepIn K (.ref gw) = true ∧ Binds K fdw [xw] [] ∧ FnW P w K mg base T k gw fdw xw wd ∧ ClsX K cs ∧ (∀ c, wd c ≠ none → c ∈ cs) ∧ ∀ c z, wd c = some z → OkS z
/-- the table of the code object c knows lambdas of the name q -/
def LamT (T : List (Addr × Str)) (mg : Str → Option Value) (base : Heap) (cdv : Value) (q : Str) : Prop := ∃ c P, cdv = .ref c ∧ TabB base mg c P ∧ (P, q) ∈ T ∧ ∀ p ∈ T, p.1 = P → p.2 = q
def told (wd : String → Option (List Nat)) : Res D → Res D
  | .ok d => .ok d
  | .exc c => (oR (wd c)).bind fun z => .ok (.str z)
  | .stk => .stk
def mTold (wd : String → Option (List Nat)) (me : EnvD → Res D) : EnvD → Res D := fun ρ => told wd (me ρ)
/-- what is wished of an exception that comes out of the lambda -/
def wTold (K : PySem.W.Frag) (T : List (Addr × Str)) (wd : String → Option (List Nat)) (Q : VK) : XK := fun cls d H' => ∃ c z, cls = .ref (He.ga K (Str.ofString c)) ∧ d = none ∧ wd c = some z ∧ Tabs T H' ∧ ∀ H'', ExtT ⟨K, T, E00⟩ H' H'' → Q (.str ⟨z.toArray⟩) H''
def TTel (K : PySem.W.Frag) (T : List (Addr × Str)) (wd : String → Option (List Nat)) : TLam := fun tl H Q => tl (wTold K T wd Q) H Q
theorem takesN0 {X : Cx} : L2N.Takes X (fun _ _ _ _ => False) := fun _ _ x => by
  obtain ⟨_, _, _, _, _, _, _, _, _, _, _, _, _, _, _, _, z⟩ := x
  exact z.elim
section
variable {X : Cx} {T : List (Addr × Str)} {E : XK} {me : EnvD → Res D}
theorem told_gives {g gw : Addr} {fdw : FuncData} {sg : Scope} {cdg : Value} {xw q : Str} {k kg : Nat} {cs : List String} {wd : String → Option (List Nat)} {p1 p2 p3 p4 p5 p6 p7 p8 p9 q1 : Pos} (S : FnScope ["_law_deed", "_law_e"] ["_law_deed"] sg) (he : sg.names.lookup ("_law_e" : Str) = some .local)
    (hd : sg.names.lookup ("DialError" : Str) = some .globalImplicit) (hw : sg.names.lookup ("_law_word" : Str) = some .globalImplicit) (md : X.mg "DialError" = some (.ref (He.ga X.K "DialError"))) (mw : X.mg "_law_word" = some (.ref gw)) (kw : PySem.W.keepIn X.K (.ref gw) = true) (bw : Binds X.K fdw [xw] [])
    (FW : FnW X.prog X.w X.K X.mg X.base T k gw fdw xw wd) (C : ClsX X.K cs) (hcs : ∀ c, wd c ≠ none → c ∈ cs) (hk : k ≤ kg) :
    Gives X ["_law_deed", "_law_e"] "_law_told" sg g cdg [.Try [.Return (some (.Call (.Name "_law_deed" p1) [] [] p2)) p3] [.ExceptHandler (some (.Name "DialError" p4)) (some "_law_e") [.Return (some (.Call (.Name "_law_word" p5) [.Name "_law_e" p6] [] p7)) p8] p9] [] [] q1] "_law_deed" q kg (TTel X.K T wd) := by
  intro f c' s H Q tl hr act hc h
  refine ⟨_, pss_one (L2N.ps_try_as (X := (giv X C8.CX0 C8.E0 ["_law_deed", "_law_e"] "_law_told" sg g cdg s H).nox) (c := .ref (He.ga X.K "DialError")) (i := 1)
      (tb := fun W D σ H => ∃ Ech : XK, (∀ cls d σ' H', Ech cls d H' → W cls d σ' H') ∧ σ[0]? = some (some (.ref f)) ∧ H c' = some (CodeO c' q) ∧ tl Ech H D.rt)
      (ts := fun a cls d D σ H => (1 < σ.length → σ[1]? = some (some (.ref a))) ∧ H a = none ∧ wTold X.K T wd D.rt cls d H)
      rfl rfl S.nd rfl he ⟨hd, by decide, .inl md⟩ takesN0 (fun W pn xe tk _ => ?_) (fun a oe cls d pn hz hf => ?_)), ?_⟩
  · refine ⟨fun pins s' σ H' D I ⟨Ech, hW, h1, h2, h3⟩ => ?_⟩
    exact (pss_one (ps_ret (pos := p3) (act W pn xe Ech p1 p2 tk hW))).run pins s' σ H' D I ⟨h1, h2, h3⟩
  · refine ⟨fun pins s' σ H' D I ⟨h1, na, c, z, ec, ed, hwd, tb, hq⟩ => ?_⟩
    subst ec ed
    generalize hY : (giv X C8.CX0 C8.E0 ["_law_deed", "_law_e"] "_law_told" sg g cdg s H).nox.suite a ((a, oe) :: pn) = Y at I ⊢
    have eA : Y.A = (X.A.deeper (envOfC "_law_told" sg s.heap.objs.size g cdg)).mark (some (.ref a)) := by rw [← hY]; rfl
    have e1 : Y.prog = X.prog := by rw [← hY]; rfl
    have e2 : Y.w = X.w := by rw [← hY]; rfl
    have e3 : Y.K = X.K := by rw [← hY]; rfl
    have e4 : Y.mg = X.mg := by rw [← hY]; rfl
    have e5 : Y.base = X.base := by rw [← hY]; rfl
    have hot : Hot1 Y.A (a, oe) := by
      obtain ⟨vs, e⟩ := hf
      exact ⟨by rw [eA]; rfl, vs, e, hz.2.2 vs e⟩
    have hm : (a, oe) ∈ Y.pn := by rw [← hY]; exact List.mem_cons_self
    have pw : PE Y (.Call (.Name "_law_word" p5) [.Name "_law_e" p6] [] p7) fun σ H Q => σ[1]? = some (some (.ref a)) ∧ Tabs T H ∧ ∀ H', ExtT ⟨X.K, T, E00⟩ H H' → Q (.str ⟨z.toArray⟩) H' := by
      refine ⟨fun pins s σ H Q I ⟨g1, g2, g3⟩ => ?_⟩
      refine wpAny_Call_Name_kw (ld_glob I (by rw [← hY]; exact hw) (e4 ▸ mw) ?_ (by decide))
      have pa : PA Y [.Name "_law_e" p6] (tCons (tVar 1) tNil) := pa_cons (pe_var (i := 1) (by rw [← hY]; rfl) (by rw [← hY]; exact .inl he) (by decide) (by decide)) pa_nil rfl
      refine PySem.W.callWith_K (h₀ := Y.base) I.ok.mod.kin (e3 ▸ kw) (thn (pa.run p7 pins s σ H (fun vs H1 => vs = [.ref a] ∧ H1 = H) I ⟨.ref a, g1, rfl, rfl⟩) fun us s1 ⟨vs, H1, I1, r, ev, eH⟩ => ⟨I1.kIn, ?_⟩) rfl rfl
      subst ev eH
      obtain rfl := Vals.ref1 r
      have b := bw s1 [.ref a] (e3 ▸ I1.kIn) rfl
      have P1 := I1.pin (a, oe) (List.mem_append_left _ hm)
      have hpin : PinOk Y.stack H1 s1 (a, oe) := ⟨P1.1, P1.2.1, fun hm => (List.mem_cons.mp (I1.stkSub a hm)).elim P1.2.2.1 P1.2.2.2.1, P1.2.2.2.2⟩
      have hrh : RoomH k Y.A := by
        have := hr.mono hk
        exact ⟨by rw [eA]; exact this.dp, by rw [eA]; exact this.un⟩
      have e0 := I1.env0
      rw [e1, e2, e3, e4, e5] at e0
      have rc := FW Y.A Y.stack s1 H1 ⟨[.ref a], []⟩ Q (a, oe) c z hrh hot hpin hz.zc hf hwd e0 b g2 g3
      refine wpAny_call ?_
      rw [e1, e2]
      refine codeAny_mono rc fun r s' hq => ?_
      match r, hq with
      | .error e, hq => exact (show False from hq).elim
      | .ok (.ret u), hq => exact I1.after (by rw [e1, e2]; exact hq)
      | .ok .next, hq => exact hq.elim
      | .ok .brk, hq => exact hq.elim
      | .ok .cont, hq => exact hq.elim
    exact (pss_one (ps_ret (pos := p8) pw)).run pins s' σ H' D I ⟨h1 (by rw [I.len, ← hY]; exact Nat.le_refl 2), tb, hq⟩
  · refine ⟨wTold X.K T wd Q, fun cls d σ' H' ⟨c, z, ec, ed, hwd, tb, hq⟩ => ?_, rfl, hc, h⟩
    refine ⟨true, by rw [ec]; exact C.exm c (hcs c (by rw [hwd]; simp)), fun _ a na => ⟨fun hl => ?_, na, c, z, ec, ed, hwd, tb, hq⟩, fun z => nomatch z⟩
    rw [List.length_set] at hl
    rw [List.getElem?_set_self hl]
/-- _law_told(lambda: e) -/
theorem d_told {k j : Nat} {cs : List String} {wd : String → Option (List Nat)} {params : Arguments} {e : Expr} {scope : Scope} {p lpos pos : Pos} (tl : TellK X.prog X.w X.K X.mg X.base T k cs wd) (lt : LamT T X.mg X.base X.env.code (X.env.qual ++ "<lambda>")) (hr : Room (j + 2) X.A) (hk : k ≤ j + 1) (hg : Gl X "_law_told")
    (L : LamS X.env.scope scope) (hdef : defaultsOf params X.env = ([], [])) (hbind : NoArgs params e scope)
    (hbody : ∀ (A : Around) (outer : List Env) (s : Shared) (H : Hp) (E' : XK) (f c' : Addr), Room j (lamN X A outer s H E' scope f c').A → Passes (L2N.CX X.prog X.w) (lamN X A outer s H E' scope f c') E' → PE (lamN X A outer s H E' scope f c') e (tD ⟨X.K, T, E'⟩ me)) :
    PE X (.Call (.Name "_law_told" p) [.Lambda params e scope lpos] [] pos) (tD (dc X T E) (mTold wd me)) := by
  obtain ⟨g, gw, fd, fdw, pg, sg, xw, p1, p2, p3, p4, p5, p6, p7, p8, p9, q1, F, hb, mt, S, hv, he, hd, hw, md, mw, kw, bw, FW, C, hcs, ho⟩ := tl
  obtain ⟨c, P, hcode, TB, hmT, hu⟩ := lt
  refine pe_imp (pe_given F hb hg mt S rfl hv (fun cdv => told_gives S he hd hw md mw kw bw FW C hcs hk) TB hcode hmT hu hr L hdef hbind (t := fun E' => tD ⟨X.K, T, E'⟩ me) fun A outer s H E' f c' hr' => hbody A outer s H E' f c' hr' (L2N.passes_call lamN_takes fun _ _ _ _ h => h)) fun σ H Q ⟨M, ρ, st, q⟩ => ?_
  refine ⟨st.tab, fun H1 e1 t1 => ⟨M, ρ, (let s' := st.ext (H' := H1) ⟨e1, t1⟩; ⟨s'.tab, s'.hid, s'.len, s'.env⟩), ?_⟩⟩
  have q' : aft (dc X T E) M H1 (RD X.K) (told wd (me ρ)) Q := aft.ext q ⟨e1, t1⟩
  cases em : me ρ with
  | ok d => rw [em] at q'; exact fun b H' e r => q' b H' ⟨e.old, e.tab⟩ r
  | stk => rw [em] at q'; exact q'
  | exc c =>
    rw [em] at q'
    obtain ⟨z, hz, q'⟩ := aft_oR q'
    exact fun H2 e2 => ⟨c, z, rfl, rfl, hz, e2.tab, fun H3 e3 => q' (.str ⟨z.toArray⟩) H3 (ExtT.trans ⟨e2.old, e2.tab⟩ ⟨e3.old, e3.tab⟩) (by simp only [RD]; exact ⟨trivial, ho c z hz⟩)⟩
end
end DL
namespace DL
open PySem PySem.Spec PyProof.Rows L2 LamX
/-! ## sorted, of data -/
/-- a stands not behind b -/
def leQ (a b : D) : Bool := !PySem.W.dataLt b.toPy a.toPy
def alikeD (ds : List D) : Bool := ds.all fun a => ds.all fun b => PySem.W.alike a.toPy b.toPy
def isTup1 : D → Bool
  | .tup (_ :: _) => true
  | _ => false
def isBase : D → Bool
  | .int _ => true
  | .str _ => true
  | _ => false
def sortOkB (ds : List D) : Bool := alikeD ds && ((ds.all isTup1 || ds.all isBase) && decide (rks ds ≤ 60))
theorem leQ_eq : PySem.W.dataLe false D.toPy = leQ := by
  rw [PySem.W.dataLe_eq]; rfl
theorem all_alike {ds : List D} (h : alikeD ds = true) : PySem.W.AllAlike (ds.map D.toPy) := by
  intro d hd d' hd'
  obtain ⟨b, hb, rfl⟩ := List.mem_map.mp hd
  obtain ⟨b', hb', rfl⟩ := List.mem_map.mp hd'
  unfold alikeD at h
  exact List.all_eq_true.mp (List.all_eq_true.mp h b hb) b' hb'
theorem sortable {ds : List D} (h : (ds.all isTup1 || ds.all isBase) = true) : PySem.W.Sortable (ds.map D.toPy) := by
  rcases Bool.or_eq_true_iff.mp h with h | h
  · refine .inl fun d hd => ?_
    obtain ⟨b, hb, rfl⟩ := List.mem_map.mp hd
    have := List.all_eq_true.mp h b hb
    unfold isTup1 at this
    split at this
    · exact ⟨_, _, by simp only [D.toPy, toPys]; rfl⟩
    · cases this
  · refine .inr fun d hd => ?_
    obtain ⟨b, hb, rfl⟩ := List.mem_map.mp hd
    have := List.all_eq_true.mp h b hb
    unfold isBase at this
    split at this
    · simp [D.toPy]
    · simp [D.toPy]
    · cases this
theorem rk_mem {ds : List D} {n : Nat} (h : rks ds ≤ n) : ∀ d ∈ ds, d.rk ≤ n := by
  induction ds with
  | nil => intro d hd; cases hd
  | cons x ds ih =>
    obtain ⟨h1, h2⟩ := rk_cons h
    intro d hd
    rcases List.mem_cons.mp hd with rfl | hd
    · exact h1
    · exact ih h2 d hd
/-- values that stand for data, visible in Hv -/
abbrev Stands (K : PySem.W.Frag) (Hv : Hp) (u : Value) (d : D) : Prop := ∃ x, RelV x u ∧ RD K Hv x d
theorem each_of {K : PySem.W.Frag} {Hv : Hp} : ∀ {xs : List V} {ds : List D} {us : List Value}, RDs K Hv xs ds → Vals xs us → PySem.W.EachIs (Stands K Hv) us ds
  | xs, [], us, r, v => by simp only [RDs] at r; subst r; cases v; exact .nil
  | xs, d :: ds, us, r, v => by
    simp only [RDs] at r
    obtain ⟨x, r', rfl, h1, h2⟩ := r
    cases v with
    | cons v1 v2 => exact .cons ⟨x, v1, h1⟩ (each_of h2 v2)
theorem each_back {K : PySem.W.Frag} {Hv : Hp} : ∀ {us : List Value} {ds : List D}, PySem.W.EachIs (Stands K Hv) us ds → ∃ xs, Vals xs us ∧ RDs K Hv xs ds
  | _, _, .nil => ⟨[], .nil, .nil⟩
  | _, _, .cons ⟨x, h1, h2⟩ t =>
    let ⟨xs, h3, h4⟩ := each_back t
    ⟨x :: xs, .cons h1 h3, .cons h2 h4⟩
theorem each_reads {X : Cx} {pins : List (Addr × Obj)} {σ : L2.St} {H Hv : Hp} {s : Shared} (I : Inv X pins σ H s) (e : ExtN Hv H) {us : List Value} {ds : List D} (h : rks ds ≤ 60) (t : PySem.W.EachIs (Stands X.K Hv) us ds) : PySem.W.EachIs (fun v b => ∃ as, Reads s.heap v (D.toPy b) as) us ds := by
  refine PySem.W.EachIs.of_zip t.length fun p hp => ?_
  obtain ⟨x, h1, h2⟩ := t.zip p hp
  have hd : p.2 ∈ ds := (List.of_mem_zip hp).2
  exact Dp.reads I _ x p.1 ((h2.ext e).dp (rk_mem h _ hd)).1 h1
def rSortD (K : PySem.W.Frag) : List V → Hp → VK → Prop := fun vs H Q => ∃ (a : Addr) (xs : List V) (ds : List D) (Hv : Hp), vs = [V.ref a] ∧ SqL K H a xs ∧ ExtN Hv H ∧ RDs K Hv xs ds ∧ sortOkB ds = true ∧
  ∀ ys p, RDs K Hv ys (ds.mergeSort leQ) → H p = none → Q (.ref p) (upd H p (.lst ys))
section
variable {X : Cx} {T : List (Addr × Str)} {E : XK}
theorem cr_sortD (hu : X.A.units + 65 < cLine) : CallR X (.builtin "sorted") (rSortD X.K) := by
  intro pins s σ H vs us Q I r h
  obtain ⟨a, xs, ds, Hv, rfl, hs, eV, rd, ok, q⟩ := h
  obtain ⟨its, rv, hl, hz⟩ := I.list hs
  obtain rfl := Vals.ref1 r
  unfold sortOkB at ok
  simp only [Bool.and_eq_true, decide_eq_true_eq] at ok
  obtain ⟨o1, o2, o3⟩ := ok
  have t := each_of rd rv
  have hlen : ds.length ≤ sizeLine := by rw [← rd.len]; exact hz
  refine PySem.W.sorted_data (R := Stands X.K Hv) (enc := D.toPy) hl.isList t (each_reads I eV o3 t) (all_alike o1) (sortable o2) hlen (fun b hb => ?_) fun out h1 h2 => ?_
  · have k1 := toPy_depth b
    have k2 := rk_mem o3 b hb
    omega
  · rw [leQ_eq] at h2
    obtain ⟨ys, y1, y2⟩ := each_back h2
    obtain ⟨ep, he⟩ := PyProof.Rows.sortedAll_at s.heap its (List.toArray out)
    have yl : ys.length ≤ sizeLine := by
      rw [y2.len, List.length_mergeSort]
      exact hlen
    exact ⟨.ref _, upd H (s.heap.objs.size + 1) (.lst ys), I.laid (t' := s.toks) (fun _ _ => PyProof.Rows.sortedAll_old) (Nat.le_succ _) ⟨yl, out, ep, y1, he⟩, rfl, q ys _ y2 (I.hok.fresh (Nat.le_succ _))⟩
def sortDF : List D → Res D
  | [.lst ds] => if sortOkB ds = true then .ok (.lst (ds.mergeSort leQ)) else .stk
  | _ => .stk
theorem a_sortD : R1D (dc X T E) (rSortD X.K) sortDF := by
  intro M H vs ds Q tb hid r q
  unfold sortDF at q
  split at q
  · rename_i ds
    obtain ⟨v, rfl, r2⟩ := rds1 r
    simp only [RD] at r2
    obtain ⟨a, vs, rfl, hp, hz, hr⟩ := r2
    obtain ⟨ok, q⟩ := aft_if q
    refine ⟨a, vs, ds, hide M H, rfl, .inl (.inl (vis_get hp)), hide_le M H, hr, ok, fun ys p hy n => ?_⟩
    exact aft_lst q tb hid n (by rw [hy.len, List.length_mergeSort, ← hr.len]; exact hz) hy
  · exact q.elim
end
end DL
namespace DL
open PySem PySem.Spec PyProof.Rows L2 LamX
/-! ## a lambda of parameters alone, as a value -/
/-- the lambda at f -/
def LamO (f c' : Addr) (q : Str) (params : Arguments) (body : Expr) (scope : Scope) : HO := .ext fun h => ∃ pm ctv, h.get? f = some (PySem.W.kla_obj "<lambda>" q params body scope [] pm c' ctv)
theorem lamO_ok {P : Program} {w : World} {H : Hp} {h : Heap} {f c' : Addr} {q : Str} {params : Arguments} {body : Expr} {scope : Scope} {pm ctv : Value} (e : h.get? f = some (PySem.W.kla_obj "<lambda>" q params body scope [] pm c' ctv)) : ObjOk P w H h f (LamO f c' q params body scope) :=
  ⟨⟨pm, ctv, e⟩, ⟨_, e⟩, fun h1 h2 ⟨pm, ctv, e⟩ st => ⟨pm, ctv, st _ e⟩⟩
theorem clo_none (cells : List (Str × Addr)) : ∀ (names : List (Str × NameKind)) (acc : List (Str × Addr)), (∀ y ∈ names, y.2 ≠ .free) → cloFrom cells names acc = acc
  | [], acc, _ => rfl
  | (n, k) :: names, acc, h => by
    have h1 : k ≠ .free := h (n, k) List.mem_cons_self
    have h2 := clo_none cells names acc fun y hy => h y (List.mem_cons_of_mem _ hy)
    unfold cloFrom
    first
    | (rw [if_neg (by simpa using h1)]; exact h2)
    | (cases k <;> first | exact absurd rfl h1 | exact h2)
/-- what a reading of a lambda gives: its place, its code's -/
def tLam1 (T : List (Addr × Str)) (q : Str) (params : Arguments) (body : Expr) (scope : Scope) : TE := fun _ H Q => Tabs T H ∧ ∀ f c' H1, ExtN H H1 → Tabs T H1 → H1 f = some (LamO f c' q params body scope) → H1 c' = some (CodeO c' q) → Q (.ref f) H1
section
variable {X : Cx} {T : List (Addr × Str)}
theorem tabs_new {H : Hp} {p : Addr} {o : HO} (t : Tabs T H) (n : H p = none) : Tabs T (upd H p o) := t.ext fun b u e => by rw [upd_ne (ne_of_none e n)]; exact e
/-- a lambda that captures nothing -/
theorem pe_lam1 {c P : Addr} {params : Arguments} {body : Expr} {scope : Scope} {pos : Pos} (TB : TabB X.base X.mg c P) (hcode : X.env.code = .ref c) (hm : (P, X.env.qual ++ "<lambda>") ∈ T) (hu : ∀ p ∈ T, p.1 = P → p.2 = X.env.qual ++ "<lambda>")
    (hdef : defaultsOf params X.env = ([], [])) (nofree : ∀ y ∈ scope.names, y.2 ≠ .free) : PE X (.Lambda params body scope pos) (tLam1 T (X.env.qual ++ "<lambda>") params body scope) := by
  refine ⟨fun pins s σ H Q I ⟨hT, h⟩ => ?_⟩
  have hcl : cloFrom X.env.cells scope.names [] = [] := clo_none _ _ _ nofree
  obtain ⟨ps, hP, ht, ha⟩ := hT _ hm
  refine PySem.W.kla_eval hdef ?_
  have bP : s.heap.BuiltinsAt X.mg P := TB.bm.keeps I.bk
  have hP' : s.heap.get? P = some { cls := .none, data := .fields ps } := I.hok P _ hP
  cases hc : codeAmong pos ps.toList with
  | none =>
    refine PySem.W.kla_makeFunction (mg := X.mg) (c := c) (P := P) (ps := ps) (closure_ok fun y hy e => absurd e (nofree y hy)) I.ok.glob (I.mod.glob.keeps I.bk) hcode (TB.code.keeps I.bk) hP' ht hc TB.gP bP fun c' ctv h' tk hx hge hlt hrec htb => ?_
    obtain ⟨c2, oc, vs, t, e2, hoc, hd, hv⟩ := hrec
    cases e2
    rw [hcl]
    have nC : H c' = none := I.hok.fresh hge
    have I1 := inv_table (t' := tk) (more := #[rawInt pos.line, rawInt pos.col, .ref c']) (h' := h') I hP (fun b o hb e => hx b o hb e) htb hge ⟨oc, vs, t, hoc, hd, hv⟩
    have I2 := I1.laid (t' := tk) (a := h'.objs.size) (h' := h'.push (PySem.W.kla_obj "<lambda>" (X.env.qual ++ "<lambda>") params body scope [] ((X.mg "__name__").getD .none) c' ctv)) (o := LamO h'.objs.size c' (X.env.qual ++ "<lambda>") params body scope)
      (fun b u e => Heap.get?_push_of_some _ e) (Nat.le_refl _) (lamO_ok (Heap.get?_push_size _ rfl))
    have nF : upd (upd H P (.tbl (ps ++ #[rawInt pos.line, rawInt pos.col, .ref c']))) c' (CodeO c' (X.env.qual ++ "<lambda>")) h'.objs.size = none := I1.hok.fresh (Nat.le_refl _)
    have hE : ExtN H (upd (upd H P (.tbl (ps ++ #[rawInt pos.line, rawInt pos.col, .ref c']))) c' (CodeO c' (X.env.qual ++ "<lambda>"))) := fun b o e n => by
      rw [upd_ne (ne_of_none e nC), upd_ne (fun z => n ps (Option.some.inj (e.symm.trans (by rw [z]; exact hP))))]
      exact e
    have eL : (ps ++ #[rawInt pos.line, rawInt pos.col, .ref c']).toList = ps.toList ++ [rawInt pos.line, rawInt pos.col, .ref c'] := by simp
    have t1 : Tabs T (upd (upd H P (.tbl (ps ++ #[rawInt pos.line, rawInt pos.col, .ref c']))) c' (CodeO c' (X.env.qual ++ "<lambda>"))) := fun p hp => by
      by_cases hb : p.1 = P
      · rw [hu p hp hb, hb]
        refine ⟨_, by rw [upd_ne (ne_of_none hP nC), upd_same], by rw [eL]; exact PySem.TriplesOk_snoc _ _ _ _ ht, fun p' cv hcv => ?_⟩
        rw [eL] at hcv
        rcases among_app _ ht hcv with z | z
        · obtain ⟨c0, e1, e2⟩ := ha p' cv z
          exact ⟨c0, e1, hE _ _ e2 codeO_ne⟩
        · exact ⟨c', z, upd_same⟩
      · obtain ⟨ps', a1, a2, a3⟩ := hT p hp
        refine ⟨ps', by rw [upd_ne (ne_of_none a1 nC), upd_ne hb]; exact a1, a2, fun p' cv hcv => ?_⟩
        obtain ⟨c0, e1, e2⟩ := a3 p' cv hcv
        exact ⟨c0, e1, hE _ _ e2 codeO_ne⟩
    refine ⟨.ref h'.objs.size, _, I2, rfl, h _ c' _ (hE.trans (.of fun b u e => by rw [upd_ne (ne_of_none e nF)]; exact e)) (tabs_new t1 nF) upd_same ?_⟩
    rw [upd_ne (ne_of_none upd_same nF), upd_same]
  | some cv =>
    obtain ⟨c', e, hco⟩ := ha pos cv hc
    subst e
    refine PySem.W.kla_makeFunctionHit (mg := X.mg) (c := c) (P := P) (ps := ps) (closure_ok fun y hy e => absurd e (nofree y hy)) I.ok.glob (I.mod.glob.keeps I.bk) hcode (TB.code.keeps I.bk) hP' ht hc bP fun ctv h' tk hx hsz => ?_
    rw [hcl]
    have I2 := I.laid (t' := tk) (a := h'.objs.size) (h' := h'.push (PySem.W.kla_obj "<lambda>" (X.env.qual ++ "<lambda>") params body scope [] ((X.mg "__name__").getD .none) c' ctv)) (o := LamO h'.objs.size c' (X.env.qual ++ "<lambda>") params body scope)
      (fun b u e => Heap.get?_push_of_some _ (hx b u e)) hsz (lamO_ok (Heap.get?_push_size _ rfl))
    have nF : H h'.objs.size = none := I.hok.fresh hsz
    refine ⟨.ref h'.objs.size, _, I2, rfl, h _ c' _ (.of fun b u e => by rw [upd_ne (ne_of_none e nF)]; exact e) (tabs_new hT nF) upd_same ?_⟩
    rw [upd_ne (ne_of_none hco nF)]
    exact hco
end
section
variable {P : Program} {w : World} {K : PySem.W.Frag} {mg : Str → Option Value} {base : Heap}
/-- the lambda at f called on u -/
theorem lam1_run {x q : Str} {params : Arguments} {body : Expr} {scope : Scope} {f c' : Addr} {k : Nat} {A : Around} {outer : List Env} {s : Shared} {H : Hp} {u : Value} {v : V} {Q : VK} {t : TE} (S : FnScope [x] [x] scope) (hbind : ∀ (u pm ctv : Value), bindArgs (PySem.W.kla_fn "<lambda>" q params body scope [] pm (.ref c') ctv) ⟨[u], []⟩ = pure [(x, u)])
    (hf : H f = some (LamO f c' q params body scope)) (hc : H c' = some (CodeO c' q)) (hr : Room (k + 1) A) (e0 : Env0 P w K mg base A outer s H) (r : RelV v u)
    (hbody : ∀ (A : Around) (outer : List Env) (s : Shared) (H : Hp), Room k (A.deeper (envOfC q scope s.heap.objs.size f (.ref c'))) → PE (cxOf C8.CX0 P w K mg base [x] q scope f (.ref c') A outer s H C8.E0) body t) (ht : t (L2.start [x] [v]) H Q) :
    codeAny (model P w) A (.call (.ref f) ⟨[u], []⟩) (CR C8.CX0 outer P w H s Q C8.E0) s := by
  obtain ⟨⟨pm, ctv, of⟩, _, _⟩ := e0.hok f _ hf
  obtain ⟨⟨oc, vs, tt, hoc, hdc, hvc⟩, _, _⟩ := e0.hok c' _ hc
  have lim : s.heap.NoLimit := e0.mod.nolimit.keeps fun b o e => (e0.bs b o e).1
  have hkind : ∀ y ∈ [x].zip [u], scope.names.lookup y.1 = some .local ∨ (scope.names.lookup y.1 = some .cell ∧ ((cellsFrom (s.heap.objs.size + 1) scope.names []).lookup y.1).isSome = true) := fun ⟨n, v⟩ hy => by
    rcases S.par n (List.of_mem_zip hy).1 with q | q
    · exact .inl q
    · exact .inr ⟨q, PySem.W.cellsFrom_some _ _ _ (.inl q)⟩
  refine PySem.W.kla_callFunE hr.depth of rfl S.co S.gen rfl ⟨c', oc, vs, tt, rfl, hoc, hdc, hvc⟩ ?_
  rw [hbind]
  refine wpAny_pure (wpAny_newFunctionEnv_cells S.kind hkind fun env he s1 x1 => ?_)
  subst he
  refine ⟨lim.keeps x1.toInCall.keep, PySem.W.kla_codeExpr ?_⟩
  have I : Inv (cxOf C8.CX0 P w K mg base [x] q scope f (.ref c') A outer s H C8.E0) [] (L2.start [x] [v]) H s1 := inv_start (us := [u]) (vs := [v]) S hr.hd e0 rfl (.cons r .nil) x1
  exact wpAny_mono ((hbody A outer s H (hr.deeper _)).run [] s1 (L2.start [x] [v]) H Q I ht) (fun v s' ⟨w', H', J', rv, q⟩ => ⟨w', H', J'.os, J'.bare, J'.base, J'.hok, rv, q⟩) fun e s' hs => hs
end
end DL
namespace DL
open PySem PySem.Spec PyProof.Rows L2 LamX PySem.W
/-! ## sorted by a key -/
section
variable {prog : Program} {w : World} {A : Around} {E : Value → Shared → Prop} {s : Shared} {a kS : Addr} {vs : List Value} {keys : Array Value} {e e1 : Nat} {P : PySem.Fin → Shared → Prop}
/-- the keys are there: the items are put down in order -/
theorem key_fin {κ : PyProof.Rows.KeyKind} (hk : s.heap.get? kS = some (seqObj "list" keys e)) (ha : s.heap.get? a = some (seqObj "list" #[] e1)) (hka : kS ≠ a) (S : SortsAt prog w A s κ keys.toList) (hsz : keys.size = vs.length) (hZ : vs.length ≤ sizeLine)
    (h : ∀ (h1 h2 : Heap) (c ck : Nat), (∀ b o, b ≠ kS → s.heap.get? b = some o → h1.get? b = some o) → h1.get? kS = some (seqObj "list" #[] ck) → (∀ b o, b ≠ a → h1.get? b = some o → h2.get? b = some o) → h2.get? a = some (seqObj "list" (sortVals κ false keys.toList vs).toArray c) → P (.done (.ret .none)) { s with heap := h2 }) :
    wpAny (model prog w) A (ksk_end a false vs.toArray e1 (.ref kS) keys) P E s := by
  obtain ⟨kd, h1, h2⟩ := S.kind
  have hkl : keys.toList.length = vs.length := by rw [Array.length_toList]; exact hsz
  have hK : PyProof.Rows.KeysOf κ (keys.zip vs.toArray) := keysOf_zip S.keys
  have hol : (sortVals κ false keys.toList vs).length = vs.length := sortVals_length false hkl
  have hss : (keys.zip vs.toArray).size = vs.length := by rw [Array.size_zip, hsz, List.size_toArray, Nat.min_self]
  have fin : ∀ st' : SortSt, (arrOf st').Perm (keys.zip vs.toArray) → SortedToK κ (arrOf st') (keys.zip vs.toArray).size → Stable κ (arrOf st') (keys.zip vs.toArray) → (arrOf st').map (·.2) = (sortVals κ false keys.toList vs).toArray := by
    intro st' hp hs ht
    have e := sort_out (rev := false) (keys := keys) (items := vs.toArray) (xs := arrOf st') (κ := κ) hK (by simpa using hp) (by simpa using hs) (by simpa using ht)
    have e' := congrArg List.toArray e
    rw [Array.toArray_toList] at e'
    simpa using e'
  have tail : ∀ st' : SortSt, failedOf st' = none → (arrOf st').map (·.2) = (sortVals κ false keys.toList vs).toArray → wpAny (model prog w) A (ksk_tail a false e1 (.ref kS) st') P E s := by
    intro st' hf ho
    have s1 := Heap.SameBut.update s.heap kS (Obj.mapSeq fun _ => (#[] : Array Value))
    obtain ⟨ck, hck⟩ : ∃ ck, (s.heap.update kS (Obj.mapSeq fun _ => (#[] : Array Value))).get? kS = some (seqObj "list" #[] ck) := ⟨_, get?_update_seq hk fun _ => #[]⟩
    have na1 : (s.heap.update kS (Obj.mapSeq fun _ => (#[] : Array Value))).get? a = some (seqObj "list" #[] e1) := (s1.2 a hka.symm).trans ha
    have s2 := Heap.SameBut.update (s.heap.update kS (Obj.mapSeq fun _ => (#[] : Array Value))) a (Obj.mapSeq fun _ => (sortVals κ false keys.toList vs).toArray)
    obtain ⟨c2, hc2⟩ : ∃ c2, ((s.heap.update kS (Obj.mapSeq fun _ => (#[] : Array Value))).update a (Obj.mapSeq fun _ => (sortVals κ false keys.toList vs).toArray)).get? a = some (seqObj "list" (sortVals κ false keys.toList vs).toArray c2) := ⟨_, get?_update_seq na1 fun _ => _⟩
    unfold ksk_tail
    try dsimp only
    simp only [Bool.false_eq_true, if_false]
    rw [ho]
    refine wpAny_bind (listUpdate_at hk rfl ?_ (by rw [hsz]; exact hZ) (Nat.zero_le _))
    refine wpAny_bind (wpAny_letGo ?_)
    refine wpAny_bind (seqEpoch_at na1 rfl ?_)
    refine wpAny_bind (listUpdate_at na1 rfl ?_ (Nat.zero_le _) (by rw [List.size_toArray, hol]; omega))
    rw [hf]
    simp only [bne_self_eq_false, Bool.false_eq_true, if_false]
    exact wpAny_pure (h _ _ c2 ck (fun b o h1 e => (s1.2 b h1).trans e) hck (fun b o h2 e => (s2.2 b h2).trans e) hc2)
  unfold ksk_end
  try dsimp only
  simp only [Bool.false_eq_true, if_false]
  by_cases hl2 : vs.toArray.size < 2
  · rw [if_pos hl2, if_pos hl2]
    refine wpAny_bind (wpAny_pure ?_)
    rw [StateT.run_pure]
    refine wpAny_bind (wpAny_pure ?_)
    try dsimp only
    refine tail (SortSt.mk' general' (keys.zip vs.toArray) #[] 7 none) rfl (fin _ (Array.Perm.refl _) ?_ (Stable.refl _))
    intro i j hij hj
    rw [hss] at hj
    rw [List.size_toArray] at hl2
    have : i = j := by omega
    subst this
    exact KeyOrd.kle_refl _
  · rw [if_neg hl2, if_neg hl2]
    rw [List.size_toArray] at hl2
    have hk2 := h2 (by omega)
    rw [Array.toArray_toList] at hk2
    refine wpAny_bind (hk2 _ ?_)
    refine wpAny_bind (wpAny_mono (H.wpS_sortRunsSt (κ := κ) (kd := kd) (a₀ := keys.zip vs.toArray) (st := SortSt.mk' kd (keys.zip vs.toArray) #[] 7 none)
      (Q := fun _ st' => failedOf st' = none ∧ (arrOf st').map (·.2) = (sortVals κ false keys.toList vs).toArray)
      h1 hK ⟨Array.Perm.refl _, rfl, rfl⟩ rfl (Stable.refl _) (by rw [hss]; omega) fun st' a1 a2 a3 a4 => ⟨a2, fin st' a1 a3 a4⟩) ?_ fun _ _ e => e)
    rintro ⟨⟨⟩, st'⟩ s' ⟨rfl, hf, ho⟩
    try dsimp only at ho ⊢
    exact tail st' hf ho
end
theorem ints_alike (ns : List Int) : AllAlike (ns.map PyData.int) := AllAlike.of fun _ _ => by simp [alike]
theorem ints_sortable (ns : List Int) : Sortable (ns.map PyData.int) := Sortable.others fun _ => by simp
theorem ints_each {h : Heap} : ∀ {ns : List Int} {us : List Value}, Vals (ns.map V.int) us → EachIs (fun v k => ∃ as, Reads h v k as) us (ns.map PyData.int)
  | [], _, r => by cases r; exact .nil
  | n :: ns, _, r => by
    cases r with
    | cons r1 r2 =>
      obtain ⟨t, rfl⟩ := r1
      exact .cons ⟨[], .int n t⟩ (ints_each r2)
section
variable {X : Cx} {pins : List (Addr × Obj)} {σ : L2.St} {H : Hp} {s : Shared} {T : List (Addr × Str)}
/-- an object that was nobody's is written and tracked -/
theorem Inv.adopt {D : Addr} {o : HO} {h' : Heap} {t' : Nat} (I : Inv X pins σ H s) (f : FpOk X pins H D) (k : ∀ b u, b ≠ D → s.heap.get? b = some u → h'.get? b = some u) (new : ObjOk X.prog X.w (upd H D o) h' D o) : Inv X pins σ (upd H D o) { s with heap := h', toks := t' } := by
  obtain ⟨f0, f1, f2, f3, f4, f5⟩ := f
  have nD : ∀ b u, H b = some u → b ≠ D := fun b u e z => by rw [z, f0] at e; cases e
  refine I.step (g' := s.gens) (d' := s.drawn) (ch := [D]) (fun b hb => ?_) (fun b o _ _ hc e _ => k b o (fun z => hc (by simp [z])) e) (fun b o _ _ hc e _ => ⟨o.slots, k b o (fun z => hc (by simp [z])) e⟩)
    (fun b o hc _ n => by rw [upd_ne (fun z => hc (by simp [z]))]; exact n) (fun b o hc e => ⟨o, k b o (fun z => hc (by simp [z])) e⟩) (fun b xs e => by rw [upd_ne (nD b _ e)]; exact e) (fun b o u e => by rw [upd_ne (nD b _ e)]; exact e)
    (fun b ps e => ⟨#[], by rw [upd_ne (nD b _ e), e]; simp⟩) (fun m hm => ?_) (fun b u e => ?_) I.bare
  · have e : b = D := by simpa using hb
    subst e
    exact ⟨f3, f1, f4, f5⟩
  · obtain ⟨ob, es, ep, ho, r⟩ := hm
    exact ⟨ob, es, ep, k _ ob (Ne.symm f1) ho, r⟩
  · by_cases hb : b = D
    · subst hb; rw [upd_same] at e; cases e; exact new
    · rw [upd_ne hb] at e
      exact (I.hok b u e).stay (fun c v hd q => k c v (fun z => by
        rcases hd with y | y
        · exact hb (y.symm.trans z)
        · exact nD c _ y z) q) (fun c q => by rw [upd_ne (nD c _ q)]; exact q) fun c xs q => by rw [upd_ne (nD c _ q)]; exact q
theorem FpOk.step {D : Addr} {H' : Hp} (f : FpOk X pins H D) (n : H' D = none) : FpOk X pins H' D := ⟨n, f.2.1, f.2.2.1, f.2.2.2.1, f.2.2.2.2.1, f.2.2.2.2.2⟩
/-- sorted(xs, key=f), f's keys whole numbers -/
theorem key_sorted {Yp : List V → Prop} {l : Addr} {xs : List V} {vs : List Value} {f : Addr} {ns : List Int} {E : Value → Shared → Prop} {Q : Value → Shared → Prop} (I : Inv X pins σ H s) (tb : Tabs T H) (rv : Vals xs vs) (hl : s.heap.IsList l vs.toArray) (hz : xs.length ≤ sizeLine) (hn : ns.length = vs.length) (hu : X.A.units + 2 < cLine)
    (turn : ∀ (i : Nat) (v : Value) (k : Int) (H' : Hp) (s' : Shared) (pins' : List (Addr × Obj)), vs[i]? = some v → ns[i]? = some k → ExtN H H' → Tabs T H' → Inv X pins' σ H' s' →
      wpAny (model X.prog X.w) X.A.in1.in1 (call (.ref f) [v]) (fun r s2 => ∃ t H2, r = .int k t ∧ ExtN H' H2 ∧ Tabs T H2 ∧ Inv X pins' σ H2 s2) (fun _ _ => False) s')
    (h : ∀ (D : Addr) (H' : Hp) (s' : Shared) (ys : List V), ExtN H H' → Tabs T H' → Inv X pins σ H' s' → H D = none → H' D = some (.lst ys) → Yp ys → Q (.ref D) s')
    (hq : ∀ out, KeyedOut false (ns.map PyData.int) vs out → ∃ ys, Vals ys out ∧ Yp ys) :
    wpAny (model X.prog X.w) X.A (call (.builtin "sorted") [.ref l] [(Str.ofString "key", .ref f)]) Q E s := by
  have hZ : vs.length ≤ sizeLine := by rw [← rv.length]; exact hz
  refine sorted_of_sort hl hZ (ksk_s1 _ _) (fun _ => ksk_l1 _ _) fun E' => ?_
  rw [ksk_t1]
  have fD : FpOk X pins H (s.heap.objs.size + 1) := I.fpOk (Nat.le_succ _) (I.hok.fresh (Nat.le_succ _))
  generalize hDe : s.heap.objs.size + 1 = D at fD
  have ho : (copyHeap s.heap vs).get? D = some (seqObj "list" vs.toArray 0) := by rw [← hDe]; exact copyHeap_at s.heap vs
  have nD : H D = none := fD.1
  have I1 : Inv X pins σ H { s with heap := copyHeap s.heap vs } := I.kept (t' := s.toks) fun _ _ => copyHeap_old
  unfold ksk_tree
  refine wpAny_bind (listItems_at ho rfl ?_)
  refine wpAny_bind (listUpdate_at ho rfl ?_ (by rw [List.size_toArray]; exact hZ) (Nat.zero_le _))
  have s1 := Heap.SameBut.update (copyHeap s.heap vs) D (Obj.mapSeq fun _ => (#[] : Array Value))
  obtain ⟨e1, ho1⟩ : ∃ e1, ((copyHeap s.heap vs).update D (Obj.mapSeq fun _ => (#[] : Array Value))).get? D = some (seqObj "list" #[] e1) := ⟨_, get?_update_seq ho fun _ => #[]⟩
  have I2 : Inv X pins σ H { s with heap := (copyHeap s.heap vs).update D (Obj.mapSeq fun _ => (#[] : Array Value)) } := I1.turned (t' := s.toks) (fun b u hb e => (s1.2 b hb).trans e) fD.1 fD.2.1 fD.2.2.2.1 fD.2.2.2.2.1 fD.2.2.2.2.2
  refine wpAny_bind (seqEpoch_at ho1 rfl ?_)
  refine wpAny_bind (wpAny_newTuple ?_ (by show vs.length ≤ _; exact hZ))
  have I3 := I2.kept (t' := s.toks) (h' := ((copyHeap s.heap vs).update D (Obj.mapSeq fun _ => (#[] : Array Value))).push (seqObj "tuple" vs.toArray 0)) fun b u e => Heap.get?_push_of_some _ e
  refine wpAny_bind (wpAny_newList ?_ (Nat.zero_le _))
  refine wpAny_holding ?_
  generalize hg : ((copyHeap s.heap vs).update D (Obj.mapSeq fun _ => (#[] : Array Value))).push (seqObj "tuple" vs.toArray 0) = g at I3 ⊢
  have ho3 : g.get? D = some (seqObj "list" #[] e1) := by rw [← hg]; exact Heap.get?_push_of_some _ ho1
  have I4 : Inv X pins σ (upd H g.objs.size (.lst [])) { s with heap := g.push (seqObj "list" #[] 0) } :=
    I3.laid (t' := s.toks) (fun b u e => Heap.get?_push_of_some _ e) (Nat.le_refl _) ⟨Nat.zero_le _, [], 0, .nil, Heap.get?_push_size _ rfl⟩
  have nk : H g.objs.size = none := I3.hok.fresh (Nat.le_refl _)
  have hka : g.objs.size ≠ D := Nat.ne_of_gt (Heap.lt_size ho3)
  show wpAny _ _ (ksk_rest D (.ref f) false vs.toArray e1 (.ref g.objs.size)) _ _ { s with heap := g.push (seqObj "list" #[] 0) }
  have ho4 : (g.push (seqObj "list" #[] 0)).get? D = some (seqObj "list" #[] e1) := Heap.get?_push_of_some _ ho3
  generalize g.objs.size = kS at I4 nk hka ⊢
  have k4 : upd H kS (.lst []) kS = some (.lst []) := upd_same
  have x4 : ExtN H (upd H kS (.lst [])) := fun b o e _ => by rw [upd_ne (ne_of_none e nk)]; exact e
  have t4 : Tabs T (upd H kS (.lst [])) := tb.ext fun b o e => by rw [upd_ne (ne_of_none e nk)]; exact e
  have d4 : upd H kS (.lst []) D = none := by rw [upd_ne hka.symm]; exact nD
  have lst_nt : ∀ (ys : List V) ps, HO.lst ys ≠ .tbl ps := fun ys ps z => by cases z
  unfold ksk_rest
  refine wpAny_bind (wpAny_rule ?_)
  first
    | rw [List.forIn_toArray]
    | (rw [← Array.forIn_toList]; simp only [List.toList_toArray])
    | rw [← Array.forIn_toList]
  refine wpAny_bind (ksk_fold (fun i s' => ∃ H', ExtN H H' ∧ Tabs T H' ∧ Inv X pins σ H' s' ∧ H' D = none ∧ H' kS = some (.lst ((ns.take i).map V.int)) ∧ s'.heap.get? D = some (seqObj "list" #[] e1)) vs 0 _
    ⟨_, x4, t4, I4, d4, by simpa using k4, ho4⟩ ?step ?done)
  case step =>
    rintro j x s' hx ⟨H', x', t', I', d', k', ho'⟩
    simp only [Nat.zero_add] at k' ⊢
    have hj : j < vs.length := (List.getElem?_eq_some_iff.mp hx).1
    obtain ⟨k, hkj⟩ : ∃ k, ns[j]? = some k := ⟨_, List.getElem?_eq_getElem (by omega)⟩
    have IP := I'.pins_of (pins' := pins ++ [(D, seqObj "list" #[] e1)]) fun p hp => by
      rcases List.mem_append.mp hp with hp | hp
      · exact I'.pin p (List.mem_append_right _ hp)
      · rw [List.mem_singleton.mp hp]
        exact ⟨ho', d', fD.2.1, fD.2.2.1, fun v z => by cases z⟩
    refine wpAny_bind (wpAny_attempt (wpAny_mono (turn j x k H' s' _ hx hkj x' t' IP) (fun v s'' he => ?_) fun _ _ hF => hF.elim))
    obtain ⟨t, H2, rfl, x2, t2, J⟩ := he
    try dsimp only
    have k2 := x2 _ _ k' (lst_nt _)
    have PD := J.pin (D, seqObj "list" #[] e1) (List.mem_append_right _ (List.mem_append_right _ (List.mem_singleton.mpr rfl)))
    have J2 := J.unpinned
    obtain ⟨hz', its, n, ri, e⟩ := J2.hok kS _ k2
    have hl := ri.length
    have hlt : its.length ≤ vs.length := by
      rw [← hl, List.length_map, List.length_take]
      omega
    refine wpAny_bind (listUpdate_at e rfl ?_ (by rw [List.size_toArray]; omega) (by rw [Array.size_push, List.size_toArray]; omega))
    have sb := Heap.SameBut.update s''.heap kS (Obj.mapSeq (·.push (Value.int k t)))
    obtain ⟨c2, hc2⟩ : ∃ c2, (s''.heap.update kS (Obj.mapSeq (·.push (Value.int k t)))).get? kS = some (seqObj "list" (its.toArray.push (.int k t)) c2) := ⟨_, get?_update_seq e (·.push (Value.int k t))⟩
    have ek : (ns.take (j + 1)).map V.int = (ns.take j).map V.int ++ [.int k] := by rw [List.take_add_one, hkj]; simp
    refine wpAny_pure ⟨rfl, upd H2 kS (.lst ((ns.take (j + 1)).map V.int)), fun b o e n => ?_, ?_, J2.write (t' := s''.toks) (by rw [k2]; trivial) (.inl rfl) (fun b u hb q => (sb.2 b hb).trans q) ⟨_, hc2⟩ ⟨?_, its ++ [.int k t], c2, ?_, ?_⟩, by rw [upd_ne hka.symm]; exact PD.2.1, upd_same, (sb.2 D hka.symm).trans PD.1⟩
    · rw [upd_ne (ne_of_none e nk)]
      exact x2 b o (x' b o e n) n
    · exact tabs_upd t2 k2
    · rw [List.length_map, List.length_take]; omega
    · rw [ek]; exact ri.append (.cons ⟨t, rfl⟩ .nil)
    · rw [hc2]; simp
  case done =>
    rintro s' ⟨H', x', t', I', d', k', ho'⟩
    have e3 : ns.take (0 + vs.length) = ns := List.take_of_length_le (by omega)
    rw [e3] at k'
    obtain ⟨hz', its, n, ri, e⟩ := I'.hok kS _ k'
    refine wpAny_bind (listItems_at e rfl ?_)
    have hit := ints_each (h := s'.heap) ri
    have hil : its.length = vs.length := by rw [← ri.length, List.length_map, hn]
    refine key_fin (κ := dataKind s'.heap (ns.map PyData.int)) e ho' hka (SortsAt.data (s := s') (by simpa using hit) (ints_alike ns) (ints_sortable ns) fun d hd => ?_) (by simpa using hil) hZ fun h1 h2 c ck g1 g2 g3 g4 => ?_
    · obtain ⟨m, _, rfl⟩ := List.mem_map.mp hd
      simp only [PyData.depth]
      show X.A.units + 2 + 0 < cLine
      omega
    · have ko : KeyedOut false (ns.map PyData.int) vs (sortVals (dataKind s'.heap (ns.map PyData.int)) false its vs) := ⟨s'.heap, its, ints_alike ns, rfl, hit⟩
      simp only [List.toList_toArray] at g4
      obtain ⟨ys, hys, hyp⟩ := hq _ ko
      have J1 : Inv X pins σ (upd H' kS (.lst [])) { s' with heap := h1 } := I'.write (t' := s'.toks) (by rw [k']; trivial) (.inl rfl) (fun b u hb q => g1 b u hb q) ⟨_, g2⟩ ⟨Nat.zero_le _, [], ck, .nil, g2⟩
      have hol : (sortVals (dataKind s'.heap (ns.map PyData.int)) false its vs).length = vs.length := sortVals_length false hil
      have J2 := Inv.adopt (h' := h2) (t' := s'.toks) (o := .lst ys) J1 (FpOk.step fD (by rw [upd_ne hka.symm]; exact d')) (fun b u hb q => g3 b u hb q) ⟨by rw [hys.length, hol]; exact hZ, _, c, hys, g4⟩
      refine ⟨rfl, h D _ _ ys (fun b o e n => ?_) ?_ J2 nD upd_same hyp⟩
      · rw [upd_ne (ne_of_none e nD), upd_ne (ne_of_none e nk)]
        exact x' b o e n
      · exact tabs_new (tabs_upd t' k') (by rw [upd_ne hka.symm]; exact d')
end
end DL
namespace DL
open PySem PySem.Spec PyProof.Rows L2 LamX PySem.W
/-! ## sorted(xs, key=lambda x: ..) on data -/
def keyOf (mk : EnvD → Res D) (d : D) : Int := match mk [some d] with
  | .ok (.int n) => n
  | _ => 0
def hasKey (mk : EnvD → Res D) (d : D) : Bool := match mk [some d] with
  | .ok (.int _) => true
  | _ => false
theorem hasKey_eq {mk : EnvD → Res D} {d : D} (h : hasKey mk d = true) : mk [some d] = .ok (.int (keyOf mk d)) := by
  unfold hasKey at h
  unfold keyOf
  split at h
  · rename_i n e; rw [e]
  · cases h
def leK (mk : EnvD → Res D) (a b : D) : Bool := decide (keyOf mk a ≤ keyOf mk b)
/-- the reading of a call with a lambda of one parameter that gives whole numbers -/
def rKeyD (K : PySem.W.Frag) (T : List (Addr × Str)) (q : Str) (params : Arguments) (body : Expr) (scope : Scope) (mk : EnvD → Res D) (R : List D → D → Prop) : List V → List V → Hp → VK → Prop := fun vs zs H Q => ∃ (a : Addr) (xs : List V) (ds : List D) (M : List Addr) (f c' : Addr),
  vs = [V.ref a] ∧ zs = [V.ref f] ∧ SqL K H a xs ∧ HidOk M H ∧ RDs K (hide M H) xs ds ∧ Tabs T H ∧ H f = some (LamO f c' q params body scope) ∧ H c' = some (CodeO c' q) ∧ (∀ d ∈ ds, hasKey mk d = true) ∧ ds ≠ [] ∧
  ∀ v H' d, ExtN H H' → Tabs T H' → R ds d → RD K (hide M H') v d → Q v H'
def rSortK (K : PySem.W.Frag) (T : List (Addr × Str)) (q : Str) (params : Arguments) (body : Expr) (scope : Scope) (mk : EnvD → Res D) : List V → List V → Hp → VK → Prop := fun vs zs H Q => ∃ (a : Addr) (xs : List V) (ds : List D) (M : List Addr) (f c' : Addr),
  vs = [V.ref a] ∧ zs = [V.ref f] ∧ SqL K H a xs ∧ HidOk M H ∧ RDs K (hide M H) xs ds ∧ Tabs T H ∧ H f = some (LamO f c' q params body scope) ∧ H c' = some (CodeO c' q) ∧ (∀ d ∈ ds, hasKey mk d = true) ∧
  ∀ p ys H', ExtN H H' → Tabs T H' → H p = none → H' p = some (.lst ys) → RDs K (hide M H') ys (ds.mergeSort (leK mk)) → Q (.ref p) H'
section
variable {X : Cx} {T : List (Addr × Str)} {E : XK}
/-- the lambda at f called on an item, within a built-in -/
theorem key_call {x q : Str} {params : Arguments} {body : Expr} {scope : Scope} {f c' : Addr} {k : Nat} {A : Around} {mk : EnvD → Res D} {pins : List (Addr × Obj)} {σ : L2.St} {s : Shared} {H : Hp} {M : List Addr} {u : Value} {v : V} {d : D} (S : FnScope [x] [x] scope)
    (hbind : ∀ (u pm c' ctv : Value), bindArgs (PySem.W.kla_fn "<lambda>" q params body scope [] pm c' ctv) ⟨[u], []⟩ = pure [(x, u)]) (hf : H f = some (LamO f c' q params body scope)) (hc : H c' = some (CodeO c' q)) (hr : Room (k + 1) A) (e0 : Env0 X.prog X.w X.K X.mg X.base A X.stack s H) (r : RelV v u)
    (hbody : ∀ (A : Around) (outer : List Env) (s : Shared) (H : Hp), Room k (A.deeper (envOfC q scope s.heap.objs.size f (.ref c'))) → PE (cxOf C8.CX0 X.prog X.w X.K X.mg X.base [x] q scope f (.ref c') A outer s H C8.E0) body (tD ⟨X.K, T, C8.E0⟩ mk))
    (I : Inv X pins σ H s) (tb : Tabs T H) (hid : HidOk M H) (rd : RD X.K (hide M H) v d) (hk : hasKey mk d = true) :
    wpAny (model X.prog X.w) A (call (.ref f) [u]) (fun r s2 => ∃ t H2, r = .int (keyOf mk d) t ∧ ExtN H H2 ∧ Tabs T H2 ∧ Inv X pins σ H2 s2) (fun _ _ => False) s := by
  have rc := lam1_run (Q := fun v H2 => v = .int (keyOf mk d) ∧ ExtN H H2 ∧ Tabs T H2) S (fun u pm ctv => hbind u pm _ ctv) hf hc hr e0 r hbody (by
    refine ⟨M, [some d], ⟨tb, hid, rfl, fun i d' h => ?_⟩, ?_⟩
    · match i, h with
      | 0, h => cases h; exact ⟨v, rfl, rd⟩
      | i + 1, h => simp at h
    · rw [hasKey_eq hk]
      intro b H2 e2 rb
      simp only [RD] at rb
      exact ⟨rb, e2.old, e2.tab⟩)
  refine wpAny_call (codeAny_mono rc fun r s2 hq => ?_)
  match r, hq with
  | .error e, hq => exact (show False from hq).elim
  | .ok (.ret u), hq =>
    obtain ⟨v2, H2, I2, rv, e, x2, t2⟩ := I.after hq
    subst e
    obtain ⟨t, rfl⟩ := rv
    exact ⟨t, H2, rfl, x2, t2, I2⟩
  | .ok .next, hq => exact hq.elim
  | .ok .brk, hq => exact hq.elim
  | .ok .cont, hq => exact hq.elim
theorem cr_sortK {x q : Str} {params : Arguments} {body : Expr} {scope : Scope} {k : Nat} {mk : EnvD → Res D} (S : FnScope [x] [x] scope) (hbind : ∀ (u pm c' ctv : Value), bindArgs (PySem.W.kla_fn "<lambda>" q params body scope [] pm c' ctv) ⟨[u], []⟩ = pure [(x, u)]) (hr : Room (k + 3) X.A)
    (hbody : ∀ (f c' : Addr) (A : Around) (outer : List Env) (s : Shared) (H : Hp), Room k (A.deeper (envOfC q scope s.heap.objs.size f (.ref c'))) → PE (cxOf C8.CX0 X.prog X.w X.K X.mg X.base [x] q scope f (.ref c') A outer s H C8.E0) body (tD ⟨X.K, T, C8.E0⟩ mk)) :
    CallRK X (.builtin "sorted") [Str.ofString "key"] (rSortK X.K T q params body scope mk) := by
  intro pins s σ H vs zs us ws Q I r rz h
  obtain ⟨a, xs, ds, M, f, c', rfl, rfl, hs, hid, rd, tb, hf, hc, hk, hq⟩ := h
  obtain ⟨its, rv, hl, hz⟩ := I.list hs
  obtain rfl := Vals.ref1 r
  obtain ⟨w1, rfl, e1⟩ := vals1 rz
  obtain rfl : w1 = Value.ref f := e1
  have t := each_of rd rv
  have hdl : ds.length = its.length := by rw [← rd.len, rv.length]
  have ek : (ds.map (keyOf mk)).map PyData.int = ds.map fun d => PyData.int (keyOf mk d) := by rw [List.map_map]; rfl
  have out_of : ∀ out, KeyedOut false ((ds.map (keyOf mk)).map PyData.int) its out → EachIs (Stands X.K (hide M H)) out (ds.mergeSort (leK mk)) := fun out ko => by
    rw [ek] at ko
    have := keyedOut_each (bs := ds) (fun d => PyData.int (keyOf mk d)) ko t
    rw [dataLe_int] at this
    exact this
  refine key_sorted (Yp := fun ys => RDs X.K (hide M H) ys (ds.mergeSort (leK mk))) (T := T) (ns := ds.map (keyOf mk)) (E := X.xe) I tb rv hl.isList hz (by rw [List.length_map, hdl]) (by have := hr.un; omega) (fun i v n H' s' pins' hv hn x' t' I' => ?_) (fun D H' s' ys x' t' I' nD hD hyp => ?_) fun out ko => ?_
  · obtain ⟨y, hy, ry⟩ : ∃ y, xs[i]? = some y ∧ RelV y v := by
      have hi : i < xs.length := by rw [rv.length]; exact (List.getElem?_eq_some_iff.mp hv).1
      obtain ⟨u, hu, ru⟩ := rv.get (List.getElem?_eq_getElem hi)
      rw [hv] at hu; cases hu
      exact ⟨_, List.getElem?_eq_getElem hi, ru⟩
    rw [List.getElem?_map] at hn
    obtain ⟨d, hd, rfl⟩ := Option.map_eq_some_iff.mp hn
    obtain ⟨y', hy', ryd⟩ := rd.get hd
    rw [hy] at hy'; cases hy'
    have e0 : Env0 X.prog X.w X.K X.mg X.base X.A.in1.in1 X.stack s' H' := I'.env0.in1.in1
    exact key_call S hbind (x' _ _ hf (fun ps z => by unfold LamO at z; cases z)) (x' _ _ hc codeO_ne) hr.in1.in1 e0 ry (hbody f c') I' t' (hid.ext x') (ryd.ext (hide_mono M x')) (hk d (List.mem_of_getElem? hd))
  · exact ⟨.ref D, H', I', rfl, hq D ys H' x' t' nD hD (hyp.ext (hide_mono M x'))⟩
  · exact each_back (out_of out ko)
def sortKF (mk : EnvD → Res D) : List D → Res D
  | [.lst ds] => if ds.all (hasKey mk) = true then .ok (.lst (ds.mergeSort (leK mk))) else .stk
  | _ => .stk
theorem d_sortK {e : Expr} {x : Str} {params : Arguments} {body : Expr} {scope : Scope} {k : Nat} {mk : EnvD → Res D} {mr : EnvD → Res (List D)} {p pos lpos kpos : Pos} (hg : Gl X "sorted") (hm : X.mg "sorted" = none) (ha : PA X [e] (tAD (dc X T E) mr)) (lt : LamT T X.mg X.base X.env.code (X.env.qual ++ "<lambda>"))
    (S : FnScope [x] [x] scope) (hdef : defaultsOf params X.env = ([], [])) (hbind : ∀ (u pm c' ctv : Value), bindArgs (PySem.W.kla_fn "<lambda>" (X.env.qual ++ "<lambda>") params body scope [] pm c' ctv) ⟨[u], []⟩ = pure [(x, u)]) (hr : Room (k + 3) X.A)
    (hbody : ∀ (f c' : Addr) (A : Around) (outer : List Env) (s : Shared) (H : Hp), Room k (A.deeper (envOfC (X.env.qual ++ "<lambda>") scope s.heap.objs.size f (.ref c'))) → PE (cxOf C8.CX0 X.prog X.w X.K X.mg X.base [x] (X.env.qual ++ "<lambda>") scope f (.ref c') A outer s H C8.E0) body (tD ⟨X.K, T, C8.E0⟩ mk))
    (he : backTo pos (starEach [e] X.env) = (false, eval e X.env) :: backTo pos (starEach [] X.env) := by rfl) (hpl : (backTo pos (starEach [e] X.env)).any (·.1) = false := by rfl)
    (hall : (backToKw pos (keywordEach [⟨some "key", .Lambda params body scope lpos, kpos⟩] X.env)).all (·.1.isSome) = true := by rfl) (hnone : (backToKw pos (keywordEach [⟨some "key", .Lambda params body scope lpos, kpos⟩] X.env)).any (·.1.isNone) = false := by rfl)
    (hks : (backToKw pos (keywordEach [⟨some "key", .Lambda params body scope lpos, kpos⟩] X.env)).filterMap (·.1) = [Str.ofString "key"] := by rfl) :
    PE X (.Call (.Name "sorted" p) [e] [⟨some "key", .Lambda params body scope lpos, kpos⟩] pos) (tD (dc X T E) (mCall (sortKF mk) mr)) := by
  obtain ⟨c, P, hcode, TB, hmT, hu⟩ := lt
  refine pe_imp (pe_callBK (cr_sortK (T := T) S hbind hr hbody) hg hm (by rfl) ha (pk_cons (pe_lam1 TB hcode hmT hu hdef S.nofree) pk_nil) (he := he) (hpl := hpl) (hall := hall) (hnone := hnone) (hks := hks)) fun σ H Q ⟨M, ρ, st, q⟩ => ?_
  refine ⟨M, ρ, st, (aft.bind (Rel := RDs X.K) q).imp fun vs H1 ⟨ds, e0, e1, r1, q1⟩ => ⟨e1.tab, fun f c' H2 x2 t2 hf hc => ?_⟩⟩
  unfold sortKF at q1
  split at q1
  · rename_i ds
    obtain ⟨v, rfl, r2⟩ := rds1 r1
    simp only [RD] at r2
    obtain ⟨a, xs, rfl, hp, hz, hr⟩ := r2
    obtain ⟨ok, q1⟩ := aft_if q1
    have hid := st.hid.ext e1.old
    refine ⟨a, xs, ds, M, f, c', rfl, rfl, .inl (.inl (x2 _ _ (vis_get hp) (fun ps z => by cases z))), hid.ext x2, hr.ext (hide_mono M x2), t2, hf, hc, List.all_eq_true.mp ok, fun D ys H' x' t' nD hD hy => ?_⟩
    refine q1 _ H' ⟨x2.trans x', t'⟩ ?_
    simp only [RD]
    exact ⟨D, ys, rfl, by rw [hide_out ((hid.ext x2).fresh nD)]; exact hD, by rw [hy.len, List.length_mergeSort, ← hr.len]; exact hz, hy⟩
  · exact q1.elim
end
end DL
namespace DL
open PySem PySem.Spec PyProof.Rows L2 LamX HotX L2H
/-! ## defs that make lambdas -/
/-- the tables of the defs that make lambdas, with the lambdas' names -/
def tabsOf (K : PySem.W.Frag) (tq : List (He.Defn × Str)) : List (Addr × Str) := tq.map fun p => ((He.cT K p.1).2, p.2)
def LTs (T : List (Addr × Str)) (mg : Str → Option Value) (base : Heap) (K : PySem.W.Frag) (tq : List (He.Defn × Str)) : Prop := ∀ p ∈ tq, LamT T mg base (.ref (He.codeOf K p.1)) p.2
theorem nodup_uniq {K : PySem.W.Frag} {tq : List (He.Defn × Str)} (n : (tq.map fun p => (He.cT K p.1).2).Nodup) : ∀ p ∈ tq, ∀ q ∈ tq, (He.cT K p.1).2 = (He.cT K q.1).2 → p.2 = q.2 := by
  induction tq with
  | nil => intro p hp; cases hp
  | cons a l ih =>
    rw [List.map_cons, List.nodup_cons] at n
    intro p hp q hq e
    rcases List.mem_cons.mp hp with e1 | hp'
    · rcases List.mem_cons.mp hq with e2 | hq'
      · rw [e1, e2]
      · exact absurd (List.mem_map.mpr ⟨q, hq', by rw [← e, e1]⟩) n.1
    · rcases List.mem_cons.mp hq with e2 | hq'
      · exact absurd (List.mem_map.mpr ⟨p, hp', by rw [e, e2]⟩) n.1
      · exact ih n.2 p hp' q hq' e
theorem lts_of {K : PySem.W.Frag} {tq : List (He.Defn × Str)} {mg : Str → Option Value} {base : Heap} (n : (tq.map fun p => (He.cT K p.1).2).Nodup) (h : ∀ p ∈ tq.map fun p => He.cT K p.1, TabB base mg p.1 p.2) : LTs (tabsOf K tq) mg base K tq := fun p hp =>
  ⟨He.codeOf K p.1, (He.cT K p.1).2, rfl, h _ (List.mem_map.mpr ⟨p, hp, rfl⟩), List.mem_map.mpr ⟨p, hp, rfl⟩, fun q hq e => by
    obtain ⟨r, hr, rfl⟩ := List.mem_map.mp hq
    exact nodup_uniq n r hr p hp e⟩
section
variable {P : Program} {w : World} {K : PySem.W.Frag} {mg : Str → Option Value} {base : Heap} {T : List (Addr × Str)}
theorem fn_runL {x qual : Str} {params : Arguments} {body : List Stmt} {scope : Scope} {at_ : He.Defn} {fd : FuncData} {N ps : List Str} {k : Nat} {m : EnvS → Out} (F : FunD K x qual params body scope [] [] (He.fAd K at_) fd) (S : FnScope N ps scope) (hps : ps.length ≤ N.length)
    (hbody : ∀ (A : Around) (outer : List Env) (s : Shared) (H : Hp) (E : XK), Room k (cxOf (L2N.CX P w) P w K mg base N qual scope (He.fAd K at_) (.ref (He.codeOf K at_)) A outer s H E).A → (cxOf (L2N.CX P w) P w K mg base N qual scope (He.fAd K at_) (.ref (He.codeOf K at_)) A outer s H E).A.units + 65 < cLine →
      Passes (L2N.CX P w) (cxOf (L2N.CX P w) P w K mg base N qual scope (He.fAd K at_) (.ref (He.codeOf K at_)) A outer s H E) E →
      PassesOwn (model P w) (cxOf (L2N.CX P w) P w K mg base N qual scope (He.fAd K at_) (.ref (He.codeOf K at_)) A outer s H E).A (cxOf (L2N.CX P w) P w K mg base N qual scope (He.fAd K at_) (.ref (He.codeOf K at_)) A outer s H E).env (cxOf (L2N.CX P w) P w K mg base N qual scope (He.fAd K at_) (.ref (He.codeOf K at_)) A outer s H E).xe →
      L2N.Takes (cxOf (L2N.CX P w) P w K mg base N qual scope (He.fAd K at_) (.ref (He.codeOf K at_)) A outer s H E) (fun cls d _ H' => E cls d H') →
      PSs (cxOf (L2N.CX P w) P w K mg base N qual scope (He.fAd K at_) (.ref (He.codeOf K at_)) A outer s H E) body (tS ⟨K, T, E⟩ m)) :
    FnOk P w K mg base (L2N.CX P w) (k + 1) (He.fAd K at_) fd ps (spD K T ps.length (runB N.length ps.length m)) := by
  obtain ⟨oc, od, dV, kV, doc, pm, an, cdv, ct, osl, rfl, lk, hcd, _, _⟩ := F.ex
  obtain ⟨c, ec⟩ := He.codeIn_ref hcd
  obtain rfl : cdv = .ref (He.codeOf K at_) := by rw [He.codeOf_eq lk (c := c) ec, ec]
  refine L2.fn_of lk hcd S (fun vs H Q E ⟨M, ds, hl, _, _, r, _⟩ => by rw [r.len]; exact hl) fun A outer s H vs Q E hr ⟨M, ds, hl, tb, hid, r, q⟩ => ⟨_, hbody A outer s H E hr (by have := hr.un; show (A.deeper _).units + 65 < cLine; omega) (L2N.passes_call (L2N.takes_of rfl rfl rfl rfl) (fun _ _ _ _ h => h)) (passes_of rfl) (L2N.takes_of rfl rfl rfl rfl), ?_⟩
  unfold runB at q
  rw [if_pos hl] at q
  exact ⟨groundOf M M H, M, M, startS N.length ds, start_S tb hid r, start_aft q⟩
end
/-- a law's end: what the def does on the script -/
theorem lawAtL {l : PySem.W.OpenLaw} {w : World} {K : PySem.W.Frag} {k n : Nat} {x : Str} {mg : Str → Option Value} {fa : Addr} {h : Heap} {f : List D → Res D} {tq : List (He.Defn × Str)} (fd : FuncData) (hn : n ≤ sizeLine)
    (hT : ∀ p ∈ tq.map (·.1), h.get? (He.cT K p).2 = some { cls := .none, data := .fields #[] }) (nT : ∀ p ∈ tq.map (·.1), K.lookup (He.cT K p).2 = none) (C : ∀ p ∈ tq.map (·.1), PySem.W.CodeHd h (He.cT K p).1 (He.cT K p).2) (nd : (tq.map fun p => (He.cT K p.1).2).Nodup)
    (hb : ∀ (s : Shared) (u : Value), BindsTo s fd ⟨[u], []⟩ [(x, u)]) (hf : ∀ ns : List Int, ns.length ≤ n → (∀ z ∈ ns, Builtin.Int.intBits z ≤ 1048576) → f [.scr ns] = .ok (.bl true))
    (ok : ∀ base : Heap, LTs (tabsOf K tq) mg base K tq → FnOk l.prog w K mg base (L2N.CX l.prog w) k fa fd [x] (spD K (tabsOf K tq) 1 f)) : LawAtS l w K (L2N.CX l.prog w) k n x mg fa h := by
  have key : ∀ (Pr : Addr × Addr → Prop), (∀ p ∈ tq.map (·.1), Pr (He.cT K p)) → ∀ p ∈ tq.map (fun p => He.cT K p.1), Pr p := fun Pr h p hp => by
    obtain ⟨r, hr, rfl⟩ := List.mem_map.mp hp
    exact h r.1 (List.mem_map.mpr ⟨r, hr, rfl⟩)
  refine ⟨fd, tq.map (fun p => He.cT K p.1), spD K (tabsOf K tq) 1 f, key _ hT, key _ nT, key _ C, hb, fun H a ns hl hbits hH hS => ?_, fun base h1 h2 ht => ok base (lts_of nd ht)⟩
  refine ⟨[], [.scr ns], rfl, (fun z hz => ?_), .nil, ?_, ?_⟩
  · obtain ⟨r, hr, rfl⟩ := List.mem_map.mp hz
    exact TabS.nil (hH (He.cT K r.1) (List.mem_map.mpr ⟨r, hr, rfl⟩))
  · rw [hide_nil]
    exact .one (by simp only [RD]; exact ⟨a, rfl, hS, Nat.le_trans hl hn⟩)
  · rw [hf ns hl hbits]
    intro b H' _ r
    simpa only [RD] using r
/-! ## the word -/
def cpsOf (c : String) : List Nat := c.toList.map Char.toNat
def wdL (cs : List String) (c : String) : Option (List Nat) := if c ∈ cs then some (cpsOf c) else none
theorem wdL_some {cs : List String} {c : String} {z : List Nat} (h : wdL cs c = some z) : c ∈ cs ∧ z = cpsOf c := by
  unfold wdL at h
  split at h
  · exact ⟨by assumption, (Option.some.inj h).symm⟩
  · cases h
theorem wdL_ne {cs : List String} {c : String} (h : wdL cs c ≠ none) : c ∈ cs := by
  cases e : wdL cs c with
  | none => exact absurd e h
  | some z => exact (wdL_some e).1
theorem wdL_ok {cs : List String} (h : cs.all (fun c => okSB (cpsOf c)) = true) {c : String} {z : List Nat} (e : wdL cs c = some z) : OkS z := by
  obtain ⟨h1, rfl⟩ := wdL_some e
  exact okS_of (List.all_eq_true.mp h c h1)
theorem LTs.at {T : List (Addr × Str)} {mg : Str → Option Value} {base : Heap} {K : PySem.W.Frag} {tq : List (He.Defn × Str)} (h : LTs T mg base K tq) (i : Nat) {p : He.Defn × Str} (e : tq[i]? = some p) : LamT T mg base (.ref (He.codeOf K p.1)) p.2 := h p (List.mem_of_getElem? e)
theorem _root_.L2.Room.h65 {k : Nat} {A : Around} (h : Room k A) : A.units + 65 < cLine := by have := h.un; omega
theorem u64 {n c : Nat} (h : n + 65 < c) : n + 64 < c := by omega
theorem u0 {n c : Nat} (h : n + 65 < c) : n < c := by omega
def sumLF : List D → Res D
  | [.lst ds] => (oR (asInts ds)).bind fun ns => .ok (.int ns.sum)
  | _ => .stk
theorem a_sumL {C : DC} : R1D C (rSum C.K) sumLF := by
  intro M H vs ds Q tb hid r h
  unfold sumLF at h
  split at h
  · obtain ⟨v, rfl, r1⟩ := rds1 r
    simp only [RD] at r1
    obtain ⟨p, us, rfl, hp, hz, hr⟩ := r1
    obtain ⟨ns, e, h⟩ := aft_oR h
    rw [asInts_rds e hr] at hp
    exact ⟨p, ns, rfl, .of (vis_get hp), aft_int h tb⟩
  · exact h.elim
theorem isXF_self (a : Addr) (b : Bool) : isXF a b (.ref a) = .ok (.bl b) := by simp [isXF]
section
variable {X : Cx} {T : List (Addr × Str)} {E : XK} {e : Expr} {pos p p2 : Pos} {me : EnvD → Res D}
theorem d_isC {cs : List String} {c d : String} {pe : Addr × Obj} (C : ClsX X.K cs) (h1 : c ∈ cs) (h2 : d ∈ cs) (hm : X.mg "isinstance" = none) (hd : X.mg (Str.ofString d) = some (.ref (He.ga X.K (Str.ofString d)))) (hp : pe ∈ X.pn) (hz : Zc (.ref (He.ga X.K (Str.ofString c))) none pe.2) (hf : ∃ vs, pe.2.data = .fields vs)
    (ha : PE X e (tD (dc X T E) me)) (hg : Gl X "isinstance" := by rfl) (hgd : Gl X (Str.ofString d) := by rfl) (hdb : (Str.ofString d == ("__debug__" : Str)) = false := by decide)
    (he : starEach [e, .Name (Str.ofString d) p2] X.env = (false, eval e X.env) :: starEach [.Name (Str.ofString d) p2] X.env := by rfl) :
    PE X (.Call (.Name "isinstance" p) [e, .Name (Str.ofString d) p2] [] pos) (tD (dc X T E) (m1 (isXF pe.1 (c == d)) me)) :=
  d_isX hg hm (C.ec c h1) (a := pe.1) (oe := pe.2) hp hz hf (C.kit c h1 d h2) (fun w r => by cases r; rfl) ha (pe_glob (v := .ref (He.ga X.K (Str.ofString d))) hgd hd rfl hdb) he rfl rfl
theorem bo_ValueError : bootBuiltins "ValueError" = some (.type "ValueError") := by decide +kernel
theorem d_isV {cs : List String} {c : String} {pe : Addr × Obj} (C : ClsX X.K cs) (h1 : c ∈ cs) (hm : X.mg "isinstance" = none) (hd : X.mg "ValueError" = none) (hp : pe ∈ X.pn) (hz : Zc (.ref (He.ga X.K (Str.ofString c))) none pe.2) (hf : ∃ vs, pe.2.data = .fields vs)
    (ha : PE X e (tD (dc X T E) me)) (hg : Gl X "isinstance" := by rfl) (hgd : Gl X "ValueError" := by rfl)
    (he : starEach [e, .Name "ValueError" p2] X.env = (false, eval e X.env) :: starEach [.Name "ValueError" p2] X.env := by rfl) :
    PE X (.Call (.Name "isinstance" p) [e, .Name "ValueError" p2] [] pos) (tD (dc X T E) (m1 (isXF pe.1 true) me)) :=
  d_isX hg hm (C.ec c h1) (a := pe.1) (oe := pe.2) hp hz hf (cv := .ty "ValueError") (C.ve c h1) (fun w r => r) ha (pe_tyn hgd hd bo_ValueError) he rfl rfl
end
end DL
namespace DL
open PySem PySem.Spec PyProof.Rows L2 LamX
/-! ## things that a slot alone holds: made, written -/
abbrev NonT (o : HO) : Prop := ∀ ps, o ≠ .tbl ps
mutual
theorem TrAt.there {K : PySem.W.Frag} {Hv H : Hp} : ∀ {v : V} {t : Tr} {fp : List Addr}, TrAt K Hv H v t fp → ∀ a ∈ fp, ∃ o, H a = some o ∧ NonT o ∧ ∀ xs, o ≠ .tup xs
  | v, .leaf d, fp, h, a, ha => by simp only [TrAt] at h; rw [h.2] at ha; cases ha
  | v, .lst ts, fp, h, a, ha => by
    simp only [TrAt] at h
    obtain ⟨p, vs, f, h1, h2, h3, h4, rfl⟩ := h
    rcases List.mem_cons.mp ha with rfl | ha
    · exact ⟨_, h2, (fun ps z => by cases z), (fun ps z => by cases z)⟩
    · exact TrsAt.there h4 a ha
  | v, .dK ks ts, fp, h, a, ha => by
    simp only [TrAt] at h
    obtain ⟨p, vs, f, h1, h2, h3, h4, rfl⟩ := h
    rcases List.mem_cons.mp ha with rfl | ha
    · exact ⟨_, h2, (fun ps z => by cases z), (fun ps z => by cases z)⟩
    · exact TrsAt.there h4 a ha
  | v, .dT ks ts, fp, h, a, ha => by
    simp only [TrAt] at h
    obtain ⟨p, vs, f, h1, h2, h3, h4, rfl⟩ := h
    rcases List.mem_cons.mp ha with rfl | ha
    · exact ⟨_, h2, (fun ps z => by cases z), (fun ps z => by cases z)⟩
    · exact TrsAt.there h4 a ha
  | v, .ins c ns ts, fp, h, a, ha => by
    simp only [TrAt] at h
    obtain ⟨p, dx, vs, f, h1, h2, h3, h4, h5, rfl⟩ := h
    rcases List.mem_cons.mp ha with rfl | ha
    · exact ⟨_, h2, (fun ps z => by cases z), (fun ps z => by cases z)⟩
    · rcases List.mem_cons.mp ha with rfl | ha
      · exact ⟨_, h3, (fun ps z => by cases z), (fun ps z => by cases z)⟩
      · exact TrsAt.there h5 a ha
theorem TrsAt.there {K : PySem.W.Frag} {Hv H : Hp} : ∀ {vs : List V} {ts : List Tr} {fp : List Addr}, TrsAt K Hv H vs ts fp → ∀ a ∈ fp, ∃ o, H a = some o ∧ NonT o ∧ ∀ xs, o ≠ .tup xs
  | vs, [], fp, h, a, ha => by simp only [TrsAt] at h; rw [h.2] at ha; cases ha
  | vs, t :: ts, fp, h, a, ha => by
    simp only [TrsAt] at h
    obtain ⟨v, r, f, g, h1, h2, h3, rfl⟩ := h
    rcases List.mem_append.mp ha with ha | ha
    · exact TrAt.there h2 a ha
    · exact TrsAt.there h3 a ha
end
mutual
def flatT : Tr → Bool
  | .leaf d => isFlat d
  | .lst ts => flatTs ts
  | .dK _ ts => flatTs ts
  | .dT _ ts => flatTs ts
  | .ins _ _ ts => flatTs ts
def flatTs : List Tr → Bool
  | [] => true
  | t :: ts => flatT t && flatTs ts
end
mutual
theorem TrAt.flat {K : PySem.W.Frag} {Hv Hv' H : Hp} : ∀ {v : V} {t : Tr} {fp : List Addr}, TrAt K Hv H v t fp → flatT t = true → TrAt K Hv' H v t fp
  | v, .leaf d, fp, h, q => by simp only [TrAt] at h ⊢; simp only [flatT] at q; exact ⟨flat_any h.1 q, h.2⟩
  | v, .lst ts, fp, h, q => by
    simp only [TrAt] at h ⊢; simp only [flatT] at q
    obtain ⟨p, vs, f, h1, h2, h3, h4, rfl⟩ := h
    exact ⟨p, vs, f, h1, h2, h3, TrsAt.flat h4 q, rfl⟩
  | v, .dK ks ts, fp, h, q => by
    simp only [TrAt] at h ⊢; simp only [flatT] at q
    obtain ⟨p, vs, f, h1, h2, h3, h4, rfl⟩ := h
    exact ⟨p, vs, f, h1, h2, h3, TrsAt.flat h4 q, rfl⟩
  | v, .dT ks ts, fp, h, q => by
    simp only [TrAt] at h ⊢; simp only [flatT] at q
    obtain ⟨p, vs, f, h1, h2, h3, h4, rfl⟩ := h
    exact ⟨p, vs, f, h1, h2, h3, TrsAt.flat h4 q, rfl⟩
  | v, .ins c ns ts, fp, h, q => by
    simp only [TrAt] at h ⊢; simp only [flatT] at q
    obtain ⟨p, dx, vs, f, h1, h2, h3, h4, h5, rfl⟩ := h
    exact ⟨p, dx, vs, f, h1, h2, h3, h4, TrsAt.flat h5 q, rfl⟩
theorem TrsAt.flat {K : PySem.W.Frag} {Hv Hv' H : Hp} : ∀ {vs : List V} {ts : List Tr} {fp : List Addr}, TrsAt K Hv H vs ts fp → flatTs ts = true → TrsAt K Hv' H vs ts fp
  | vs, [], fp, h, q => by simpa only [TrsAt] using h
  | vs, t :: ts, fp, h, q => by
    simp only [TrsAt] at h ⊢; simp only [flatTs, Bool.and_eq_true] at q
    obtain ⟨v, r, f, g, h1, h2, h3, rfl⟩ := h
    exact ⟨v, r, f, g, h1, TrAt.flat h2 q.1, TrsAt.flat h3 q.2, rfl⟩
end
section
variable {C : DC} {G H H' : Hp} {M O : List Addr} {σ : L2.St} {ρ : EnvS}
theorem news_le {new : List Addr} (e : ExtN H H') (n : ∀ b o, H b = some o → NonT o → b ∉ new) : ExtN (hide O H) (hide (new ++ O) H') := fun b o h1 h2 => by
  obtain ⟨a1, a2⟩ := hide_some h1
  rw [hide_out (fun z => (List.mem_append.mp z).elim (n b o a1 h2) a2)]
  exact e b o a1 h2
theorem StS.news (s : StS C G M O σ ρ H) {new : List Addr} (n : ∀ b o, H b = some o → NonT o → b ∉ new) : ∀ p ∈ new, p ∉ O ∧ G p = none := fun p hp => s.fresh fun b o h t e => n b o h t (e ▸ hp)
def updF (F : Nat → List Addr) (i : Nat) (x : List Addr) : Nat → List Addr := fun j => if j = i then x else F j
theorem updF_same {F : Nat → List Addr} {i : Nat} {x : List Addr} : updF F i x i = x := if_pos rfl
theorem updF_ne {F : Nat → List Addr} {i j : Nat} {x : List Addr} (h : j ≠ i) : updF F i x j = F j := if_neg h
/-- a slot takes a new thing that it alone holds -/
theorem StS.tre_new (s : StS C G M O σ ρ H) (e : ExtT C H H') {i : Nat} {v : V} {t : Tr} {new : List Addr} (r : TrAt C.K (hide (new ++ O) H') H' v t new) (nd : new.Nodup) (n : ∀ b o, H b = some o → NonT o → b ∉ new) : StS C G M (new ++ O) (σ.set i (some v)) (ρ.set i (.tre t)) H' := by
  have fr := s.news n
  have le : ExtN (hide O H) (hide (new ++ O) H') := news_le e.old n
  have s' := s.ext e
  refine ⟨e.tab, s'.gnd, fun a ha => List.mem_append_right _ (s.sub a ha), s'.hid.more r.there, fun a ha => ?_, s.ntb, by rw [List.length_set, List.length_set, s.len], fun j d h => ?_, fun j ds h => ?_, fun j k p dj dk h1 h2 h3 h4 => ?_, ?_⟩
  · rcases List.mem_append.mp ha with ha | ha
    · exact .inr (fr a ha).2
    · exact s.fre a ha
  · rcases getElem?_set_cases h with ⟨_, e1⟩ | ⟨hn, h⟩
    · cases e1
    · rw [List.getElem?_set_ne (Ne.symm hn)]
      obtain ⟨v, a1, a2⟩ := s.val j d h
      exact ⟨v, a1, a2.ext le⟩
  · rcases getElem?_set_cases h with ⟨_, e1⟩ | ⟨hn, h⟩
    · cases e1
    · rw [List.getElem?_set_ne (Ne.symm hn)]
      obtain ⟨p, vs, a1, a2, a3, a4, a5, a6⟩ := s.own j ds h
      exact ⟨p, vs, a1, List.mem_append_right _ a2, a3, e.old p _ a4 (fun ps z => by cases z), a5, a6.ext le⟩
  · rcases getElem?_set_cases h1 with ⟨_, e1⟩ | ⟨hn, h1⟩
    · cases e1
    · rcases getElem?_set_cases h2 with ⟨_, e1⟩ | ⟨hn2, h2⟩
      · cases e1
      · rw [List.getElem?_set_ne (Ne.symm hn)] at h3
        rw [List.getElem?_set_ne (Ne.symm hn2)] at h4
        exact s.inj j k p dj dk h1 h2 h3 h4
  · obtain ⟨F, f1, f2, f3⟩ := s.trs
    have inO : ∀ j t', ρ[j]? = some (.tre t') → ∀ a ∈ F j, a ∈ O := fun j t' q a ha => let ⟨_, _, _, _, g⟩ := f1 j t' q; (g a ha).1
    refine ⟨updF F i new, fun j t' q => ?_, fun j k tj tk hn q1 q2 => ?_, fun j k ds t' p q1 q2 q3 => ?_⟩
    · rcases getElem?_set_cases q with ⟨rfl, e1⟩ | ⟨hn, q⟩
      · cases e1
        have hl : j < ρ.length := by
          rcases Nat.lt_or_ge j ρ.length with z | z
          · exact z
          · rw [List.getElem?_eq_none (by rw [List.length_set]; omega)] at q; cases q
        exact ⟨v, List.getElem?_set_self (by rw [s.len]; exact hl), by rw [updF_same]; exact r, by rw [updF_same]; exact nd, fun a ha => by
          rw [updF_same] at ha
          exact ⟨List.mem_append_left _ ha, fun z => (fr a ha).1 (s.sub a z)⟩⟩
      · rw [List.getElem?_set_ne (Ne.symm hn)]
        obtain ⟨u, g1, g2, g3, g4⟩ := f1 j t' q
        refine ⟨u, g1, ?_, ?_, fun a ha => ?_⟩
        · rw [updF_ne hn]; exact g2.mono le (fun a _ o ha t => e.old a o ha t)
        · rw [updF_ne hn]; exact g3
        · rw [updF_ne hn] at ha
          exact ⟨List.mem_append_right _ (g4 a ha).1, (g4 a ha).2⟩
    · rcases getElem?_set_cases q1 with ⟨rfl, _⟩ | ⟨hn1, q1'⟩
      · rcases getElem?_set_cases q2 with ⟨rfl, _⟩ | ⟨hn2, q2⟩
        · exact absurd rfl hn
        · intro a ha
          rw [updF_same] at ha; rw [updF_ne hn2]
          exact fun z => (fr a ha).1 (inO k tk q2 a z)
      · rcases getElem?_set_cases q2 with ⟨rfl, _⟩ | ⟨hn2, q2⟩
        · intro a ha
          rw [updF_ne hn1] at ha; rw [updF_same]
          exact fun z => (fr a z).1 (inO j tj q1' a ha)
        · intro a ha
          rw [updF_ne hn1] at ha; rw [updF_ne hn2]
          exact f2 j k tj tk hn q1' q2 a ha
    · rcases getElem?_set_cases q1 with ⟨_, e1⟩ | ⟨hn1, q1'⟩
      · cases e1
      · rw [List.getElem?_set_ne (Ne.symm hn1)] at q3
        rcases getElem?_set_cases q2 with ⟨rfl, _⟩ | ⟨hn2, q2⟩
        · rw [updF_same]
          obtain ⟨p', us, a1, a2, _⟩ := s.own j ds q1'
          rw [q3] at a1; cases a1
          exact fun z => (fr p z).1 a2
        · rw [updF_ne hn2]; exact f3 j k ds t' p q1' q2 q3
/-- a thing that a slot alone holds is written -/
theorem StS.tre_put (s : StS C G M O σ ρ H) {i : Nat} {t : Tr} (hi : ρ[i]? = some (.tre t)) : ∃ v fp, σ[i]? = some (some v) ∧ TrAt C.K (hide O H) H v t fp ∧ fp.Nodup ∧ (∀ a ∈ fp, a ∈ O ∧ a ∉ M) ∧
    ∀ (H' : Hp) (new : List Addr) (t' : Tr) (fp' : List Addr), (∀ b o, H b = some o → NonT o → b ∉ new) → (∀ a ∈ fp', a ∈ fp ∨ a ∈ new) → fp'.Nodup → Tabs C.T H' → (∀ b o, H b = some o → NonT o → b ∉ fp → H' b = some o) → (∀ a ∈ fp, ∃ o, H' a = some o ∧ NonT o ∧ ∀ xs, o ≠ .tup xs) → (∀ a ∈ new, ∃ o, H' a = some o ∧ NonT o ∧ ∀ xs, o ≠ .tup xs) →
      TrAt C.K (hide (new ++ O) H') H' v t' fp' → StS C G M (new ++ O) σ (ρ.set i (.tre t')) H' := by
  obtain ⟨F, f1, f2, f3⟩ := s.trs
  obtain ⟨v, h1, h2, h3, h4⟩ := f1 i t hi
  refine ⟨v, F i, h1, h2, h3, h4, fun H' new t' fp' n sub nd tb old th tn r => ?_⟩
  have fr := s.news n
  have le : ExtN (hide O H) (hide (new ++ O) H') := fun b o q1 q2 => by
    obtain ⟨a1, a2⟩ := hide_some q1
    rw [hide_out (fun z => (List.mem_append.mp z).elim (n b o a1 q2) a2)]
    exact old b o a1 q2 fun z => a2 (h4 b z).1
  have inO : ∀ j t', ρ[j]? = some (.tre t') → ∀ a ∈ F j, a ∈ O := fun j t' q a ha => let ⟨_, _, _, _, g⟩ := f1 j t' q; (g a ha).1
  have hl : i < ρ.length := (List.getElem?_eq_some_iff.mp hi).1
  refine ⟨tb, fun b o q1 q2 => ?_, fun a ha => List.mem_append_right _ (s.sub a ha), HidOk.more ⟨fun a ha => ?_, fun a ha xs q => ?_⟩ tn, fun a ha => ?_, s.ntb, by rw [List.length_set, s.len], fun j d h => ?_, fun j ds h => ?_, fun j k p dj dk q1 q2 q3 q4 => ?_, ?_⟩
  · refine old b o (s.gnd b o q1 q2) q2 fun z => ?_
    rcases s.fre b (h4 b z).1 with w | w
    · exact (h4 b z).2 w
    · rw [q1] at w; cases w
  · by_cases c : a ∈ F i
    · obtain ⟨o, o1, o2, _⟩ := th a c
      exact ⟨o, o1, o2⟩
    · obtain ⟨o, o1, o2⟩ := s.hid.at_ a ha
      exact ⟨o, old a o o1 o2 c, o2⟩
  · by_cases c : a ∈ F i
    · obtain ⟨o, o1, _, o2⟩ := th a c
      rw [o1] at q; cases q; exact o2 xs rfl
    · obtain ⟨o, o1, o2⟩ := s.hid.at_ a ha
      rw [old a o o1 o2 c] at q; cases q
      exact s.hid.nt a ha xs o1
  · rcases List.mem_append.mp ha with ha | ha
    · exact .inr (fr a ha).2
    · exact s.fre a ha
  · rcases getElem?_set_cases h with ⟨_, e1⟩ | ⟨hn, h⟩
    · cases e1
    · obtain ⟨v, a1, a2⟩ := s.val j d h
      exact ⟨v, a1, a2.ext le⟩
  · rcases getElem?_set_cases h with ⟨_, e1⟩ | ⟨hn, h⟩
    · cases e1
    · obtain ⟨p, vs, a1, a2, a3, a4, a5, a6⟩ := s.own j ds h
      exact ⟨p, vs, a1, List.mem_append_right _ a2, a3, old p _ a4 (fun ps z => by cases z) (f3 j i ds t p h hi a1), a5, a6.ext le⟩
  · rcases getElem?_set_cases q1 with ⟨_, e1⟩ | ⟨hn, q1⟩
    · cases e1
    · rcases getElem?_set_cases q2 with ⟨_, e1⟩ | ⟨hn2, q2⟩
      · cases e1
      · exact s.inj j k p dj dk q1 q2 q3 q4
  · refine ⟨updF F i fp', fun j t2 q => ?_, fun j k tj tk hn q1 q2 => ?_, fun j k ds t2 p q1 q2 q3 => ?_⟩
    · rcases getElem?_set_cases q with ⟨rfl, e1⟩ | ⟨hn, q⟩
      · cases e1
        exact ⟨v, h1, by rw [updF_same]; exact r, by rw [updF_same]; exact nd, fun a ha => by
          rw [updF_same] at ha
          rcases sub a ha with w | w
          · exact ⟨List.mem_append_right _ (h4 a w).1, (h4 a w).2⟩
          · exact ⟨List.mem_append_left _ w, fun z => (fr a w).1 (s.sub a z)⟩⟩
      · obtain ⟨u, g1, g2, g3, g4⟩ := f1 j t2 q
        refine ⟨u, g1, ?_, ?_, fun a ha => ?_⟩
        · rw [updF_ne hn]; exact g2.mono le (fun a ha o hq hq2 => old a o hq hq2 (f2 j i t2 t hn q hi a ha))
        · rw [updF_ne hn]; exact g3
        · rw [updF_ne hn] at ha
          exact ⟨List.mem_append_right _ (g4 a ha).1, (g4 a ha).2⟩
    · rcases getElem?_set_cases q1 with ⟨rfl, _⟩ | ⟨hn1, q1'⟩
      · rcases getElem?_set_cases q2 with ⟨rfl, _⟩ | ⟨hn2, q2⟩
        · exact absurd rfl hn
        · intro a ha
          rw [updF_same] at ha; rw [updF_ne hn2]
          rcases sub a ha with w | w
          · exact f2 j k t tk hn hi q2 a w
          · exact fun z => (fr a w).1 (inO k tk q2 a z)
      · rcases getElem?_set_cases q2 with ⟨rfl, _⟩ | ⟨hn2, q2⟩
        · intro a ha
          rw [updF_ne hn1] at ha; rw [updF_same]
          intro z
          rcases sub a z with w | w
          · exact f2 j k tj t hn q1' hi a ha w
          · exact (fr a w).1 (inO j tj q1' a ha)
        · intro a ha
          rw [updF_ne hn1] at ha; rw [updF_ne hn2]
          exact f2 j k tj tk hn q1' q2 a ha
    · rcases getElem?_set_cases q1 with ⟨_, e1⟩ | ⟨hn1, q1'⟩
      · cases e1
      · rcases getElem?_set_cases q2 with ⟨rfl, _⟩ | ⟨hn2, q2⟩
        · rw [updF_same]
          intro z
          rcases sub p z with w | w
          · exact f3 j k ds t p q1' hi q3 w
          · obtain ⟨p', us, a1, a2, _⟩ := s.own j ds q1'
            rw [q3] at a1; cases a1
            exact (fr p w).1 a2
        · rw [updF_ne hn2]; exact f3 j k ds t2 p q1' q2 q3
/-! ### what a slot takes -/
def SlAt (K : PySem.W.Frag) (M : List Addr) (H' : Hp) (v : V) : Sl → List Addr → Prop
  | .val d, new => RD K (hide M H') v d ∧ new = []
  | .own ds, new => ∃ p vs, v = .ref p ∧ H' p = some (.lst vs) ∧ vs.length ≤ sizeLine ∧ RDs K (hide (p :: M) H') vs ds ∧ new = [p]
  | .tre t, new => TrAt K (hide (new ++ M) H') H' v t new ∧ new.Nodup
  | .no, _ => False
def flatSl : Sl → Bool
  | .val d => isFlat d
  | .own ds => ds.all isFlat
  | .tre t => flatT t
  | .no => true
theorem SlAt.flat {K : PySem.W.Frag} {M M' : List Addr} {v : V} {x : Sl} {new : List Addr} (h : SlAt K M H' v x new) (f : flatSl x = true) : SlAt K M' H' v x new := by
  cases x with
  | val d => exact ⟨flat_any h.1 f, h.2⟩
  | own ds =>
    obtain ⟨p, vs, h1, h2, h3, h4, h5⟩ := h
    exact ⟨p, vs, h1, h2, h3, flats_any h4 f, h5⟩
  | tre t => exact ⟨h.1.flat f, h.2⟩
  | no => exact h
theorem SlAt.there {K : PySem.W.Frag} {M : List Addr} {v : V} {x : Sl} {new : List Addr} (h : SlAt K M H' v x new) : ∀ a ∈ new, ∃ o, H' a = some o ∧ NonT o ∧ ∀ xs, o ≠ .tup xs := by
  cases x with
  | val d => intro a ha; rw [h.2] at ha; cases ha
  | own ds =>
    obtain ⟨p, vs, h1, h2, h3, h4, h5⟩ := h
    intro a ha
    rw [h5] at ha
    rw [List.mem_singleton.mp ha]
    exact ⟨_, h2, (fun ps z => by cases z), (fun ps z => by cases z)⟩
  | tre t => exact h.1.there
  | no => exact h.elim
theorem StS.take (s : StS C G M O σ ρ H) (e : ExtT C H H') {i : Nat} {v : V} {x : Sl} {new : List Addr} (r : SlAt C.K O H' v x new) (n : ∀ b o, H b = some o → NonT o → b ∉ new) : StS C G M (new ++ O) (σ.set i (some v)) (ρ.set i x) H' := by
  cases x with
  | val d =>
    obtain ⟨r, rfl⟩ := r
    exact (s.ext e).setVal r
  | own ds =>
    obtain ⟨p, vs, rfl, h2, h3, h4, rfl⟩ := r
    exact s.own_new e h2 h3 h4 fun b o hb t z => n b o hb t (List.mem_singleton.mpr z)
  | tre t => exact s.tre_new e r.1 r.2 n
  | no => exact r.elim
theorem StE.hideNew {ρ : EnvD} (s : StE C M σ ρ H) (e : ExtT C H H') {new : List Addr} (th : ∀ a ∈ new, ∃ o, H' a = some o ∧ NonT o ∧ ∀ xs, o ≠ .tup xs) (n : ∀ b o, H b = some o → NonT o → b ∉ new) : StE C (new ++ M) σ ρ H' :=
  ⟨e.tab, (s.hid.ext e.old).more th, s.len, fun i d h => let ⟨v, h1, h2⟩ := s.env i d h; ⟨v, h1, h2.ext (news_le e.old n)⟩⟩
end
end DL
namespace DL
open PySem PySem.Spec PyProof.Rows L2 LamX
/-! ## what a slot takes, by any expression -/
def aftSl (C : DC) (M : List Addr) (H : Hp) (r : Res Sl) (Q : VK) : Prop := match r with
  | .ok x => ∀ v new H', ExtT C H H' → SlAt C.K M H' v x new → (∀ b o, H b = some o → NonT o → b ∉ new) → Q v H'
  | .exc c => ∀ H', ExtT C H H' → C.E (.ref (He.ga C.K c)) none H'
  | .stk => False
def tSl (C : DC) (m : EnvD → Res Sl) : TE := fun σ H Q => ∃ M ρ, StE C M σ ρ H ∧ aftSl C M H (m ρ) Q
def mVal (m : EnvD → Res D) : EnvD → Res Sl := fun ρ => (m ρ).bind fun d => .ok (.val d)
def mOwn (m : EnvD → Res (List D)) : EnvD → Res Sl := fun ρ => (m ρ).bind fun d => .ok (.own d)
def mTre (t : Tr) : EnvD → Res Sl := fun _ => .ok (.tre t)
section
variable {X : Cx} {T : List (Addr × Str)} {E : XK} {e a b : Expr} {pos : Pos} {m : EnvD → Res D} {ml : EnvD → Res (List D)} {ms ma mb : EnvD → Res Sl}
theorem sl_val (h : PE X e (tD (dc X T E) m)) : PE X e (tSl (dc X T E) (mVal m)) := pe_imp h fun σ H Q ⟨M, ρ, st, q⟩ => by
  refine ⟨M, ρ, st, ?_⟩
  unfold mVal at q
  cases e1 : m ρ with
  | ok d => rw [e1] at q; exact fun v H' e r => q v [] H' e ⟨r, rfl⟩ (fun _ _ _ _ z => nomatch z)
  | exc c => rw [e1] at q; exact q
  | stk => rw [e1] at q; exact q
theorem sl_own (h : PE X e (tF (dc X T E) ml)) : PE X e (tSl (dc X T E) (mOwn ml)) := pe_imp h fun σ H Q ⟨M, ρ, st, q⟩ => by
  refine ⟨M, ρ, st, ?_⟩
  unfold mOwn at q
  cases e1 : ml ρ with
  | ok d => rw [e1] at q; exact fun p vs H' e hp z r n => q _ [p] H' e ⟨p, vs, rfl, hp, z, r, rfl⟩ (fun b o hb t w => n b o hb t (List.mem_singleton.mp w))
  | exc c => rw [e1] at q; exact q
  | stk => rw [e1] at q; exact q
theorem sl_dK : PE X (.Dict [] [] pos) (tSl (dc X T E) (mTre (.dK [] []))) := pe_imp pe_dnewK fun σ H Q ⟨M, ρ, st, q⟩ => by
  intro p n
  refine q (.ref p) [p] _ (.new st.tab n) ⟨?_, by simp⟩ (fun b o hb t w => by rw [List.mem_singleton.mp w, n] at hb; cases hb)
  simp only [TrAt, TrsAt]
  exact ⟨p, [], [], rfl, upd_same, ⟨rfl, .nil, fun k hk => nomatch hk⟩, ⟨rfl, rfl⟩, rfl⟩
theorem sl_dT : PE X (.Dict [] [] pos) (tSl (dc X T E) (mTre (.dT [] []))) := pe_imp pe_dnewT fun σ H Q ⟨M, ρ, st, q⟩ => by
  intro p n
  refine q (.ref p) [p] _ (.new st.tab n) ⟨?_, by simp⟩ (fun b o hb t w => by rw [List.mem_singleton.mp w, n] at hb; cases hb)
  simp only [TrAt, TrsAt]
  exact ⟨p, [], [], rfl, upd_same, ⟨rfl, .nil, fun k hk => nomatch hk⟩, ⟨rfl, rfl⟩, rfl⟩
def sAsgS (vs : List Nat) (i : Nat) (ms : EnvD → Res Sl) : EnvS → Out := fun ρ => match ms (vis (freeze vs ρ)) with
  | .ok x => .next ((if flatSl x = true then ρ else freeze vs ρ).set i x)
  | .exc c => .exc c
  | .stk => .stk
theorem asgS_imp (vs : List Nat) (i : Nat) {te : TE} (hte : ∀ σ H Q, tSl (dc X T E) ms σ H Q → te σ H Q) : ∀ D σ H, tS (dc X T E) (sAsgS vs i ms) D σ H → tAsg te (gName i) D σ H := fun D σ H ⟨G, M, O, ρ, s, h⟩ => by
  obtain ⟨O1, s1, u1⟩ := s.freeze vs
  refine hte _ _ _ ⟨O1, _, s1.toE, ?_⟩
  unfold sAsgS at h
  cases q : ms (vis (freeze vs ρ)) with
  | ok x =>
    rw [q] at h
    intro v new H' e r n
    by_cases hf : flatSl x = true
    · have h' : aftS (dc X T E) G M (.next ((if flatSl x = true then ρ else freeze vs ρ).set i x)) D := h
      rw [if_pos hf] at h'
      exact h' _ _ H' (s.take e (r.flat hf) n)
    · have h' : aftS (dc X T E) G M (.next ((if flatSl x = true then ρ else freeze vs ρ).set i x)) D := h
      rw [if_neg hf] at h'
      exact h' _ _ H' (s1.take e r n)
  | exc c => rw [q] at h; exact aftS_exc s h
  | stk => rw [q] at h; exact h
theorem q_asgS (vs : List Nat) {i : Nat} {x : Str} {pos' : Pos} (hN : X.N.Nodup) (hi : X.N[i]? = some x) (hx : Loc X.env.scope x) (he : PE X e (tSl (dc X T E) ms)) (hs : swapsWith e (some (.Name x pos')) pos.line X.env = pure false := by rfl) (hf : X.fn x = true ∨ X.env.scope.names.lookup x = some .local := by first | exact .inl rfl | exact .inr rfl | assumption) :
    PS X (.Assign [.Name x pos'] e pos) (tS (dc X T E) (sAsgS vs i ms)) := ps_imp (ps_set hN hi hx he hs hf) (asgS_imp vs i fun _ _ _ h => h)
def sParS (vs : List Nat) (i j : Nat) (ma mb : EnvD → Res Sl) : EnvS → Out := fun ρ => match (ma (vis (freeze vs ρ))).bind fun a => (mb (vis (freeze vs ρ))).bind fun b => .ok (a, b) with
  | .ok (a, b) => .next (((if (flatSl a && flatSl b) = true then ρ else freeze vs ρ).set i a).set j b)
  | .exc c => .exc c
  | .stk => .stk
theorem q_parS {x y : Str} {i j : Nat} {px py pt pt2 : Pos} {kt k2 : Nat} (vs : List Nat) (hc : X.calm = true) (hN : X.N.Nodup) (hi : X.N[i]? = some x) (hj : X.N[j]? = some y) (hij : i ≠ j) (hx : X.env.scope.names.lookup x = some .local) (hy : X.env.scope.names.lookup y = some .local)
    (ha : PE X a (tSl (dc X T E) ma)) (hb : PE X b (tSl (dc X T E) mb)) (hsa : starEach [a, b] X.env = (false, eval a X.env) :: starEach [b] X.env := by rfl) (hsb : starEach [b] X.env = (false, eval b X.env) :: starEach [] X.env := by rfl)
    (hw : swappedStores [.Tuple [.Name x px, .Name y py] kt pt] (.Tuple [a, b] k2 pt2) X.env = pure (some [x, y]) := by rfl) (hs : swapsWithSole [.Tuple [.Name x px, .Name y py] kt pt] (.Tuple [a, b] k2 pt2) pos.line X.env = pure false := by rfl) :
    PS X (.Assign [.Tuple [.Name x px, .Name y py] kt pt] (.Tuple [a, b] k2 pt2) pos) (tS (dc X T E) (sParS vs i j ma mb)) := ps_imp (ps_par hc hN hi hj hij hx hy (pa_cons ha (pa_cons hb pa_nil hsb) hsa) hw hs) fun D σ H ⟨G, M, O, ρ, s, h⟩ => by
  obtain ⟨O1, s1, u1⟩ := s.freeze vs
  refine ⟨O1, _, s1.toE, ?_⟩
  unfold sParS at h
  cases q : ma (vis (freeze vs ρ)) with
  | exc c => rw [q] at h; exact aftS_exc s h
  | stk => rw [q] at h; exact h
  | ok da =>
    simp only [q, Res.bind_ok] at h
    intro v n1 H1 e1 r1 f1
    refine ⟨n1 ++ O1, _, s1.toE.hideNew e1 r1.there f1, ?_⟩
    cases q2 : mb (vis (freeze vs ρ)) with
    | exc c => rw [q2] at h; exact aftS_exc (s.ext e1) h
    | stk => rw [q2] at h; exact h
    | ok db =>
      simp only [q2, Res.bind_ok] at h
      intro u n2 H2 e2 r2 f2
      refine ⟨v, u, rfl, ?_⟩
      by_cases hf : (flatSl da && flatSl db) = true
      · simp only [if_pos hf] at h
        obtain ⟨g1, g2⟩ := Bool.and_eq_true_iff.mp hf
        exact h _ _ H2 ((s.take e1 (r1.flat g1) f1).take e2 (r2.flat g2) f2)
      · simp only [if_neg hf] at h
        exact h _ _ H2 ((s1.take e1 r1 f1).take e2 r2 f2)
def sPar3S (vs : List Nat) (i j l : Nat) (ma mb mc : EnvD → Res Sl) : EnvS → Out := fun ρ => match (ma (vis (freeze vs ρ))).bind fun a => (mb (vis (freeze vs ρ))).bind fun b => (mc (vis (freeze vs ρ))).bind fun c => .ok (a, b, c) with
  | .ok (a, b, c) => .next ((((if (flatSl a && (flatSl b && flatSl c)) = true then ρ else freeze vs ρ).set i a).set j b).set l c)
  | .exc c => .exc c
  | .stk => .stk
theorem q_par3S {c : Expr} {mc : EnvD → Res Sl} {x y z : Str} {i j l : Nat} {px py pz pt pt2 : Pos} {kt k2 : Nat} (vs : List Nat) (hc : X.calm = true) (hN : X.N.Nodup) (hi : X.N[i]? = some x) (hj : X.N[j]? = some y) (hl : X.N[l]? = some z) (hij : i ≠ j) (hil : i ≠ l) (hjl : j ≠ l) (hx : X.env.scope.names.lookup x = some .local) (hy : X.env.scope.names.lookup y = some .local) (hz : X.env.scope.names.lookup z = some .local)
    (ha : PE X a (tSl (dc X T E) ma)) (hb : PE X b (tSl (dc X T E) mb)) (hcc : PE X c (tSl (dc X T E) mc)) (hsa : starEach [a, b, c] X.env = (false, eval a X.env) :: starEach [b, c] X.env := by rfl) (hsb : starEach [b, c] X.env = (false, eval b X.env) :: starEach [c] X.env := by rfl) (hsc : starEach [c] X.env = (false, eval c X.env) :: starEach [] X.env := by rfl)
    (hw : swappedStores [.Tuple [.Name x px, .Name y py, .Name z pz] kt pt] (.Tuple [a, b, c] k2 pt2) X.env = pure (some [x, y, z]) := by rfl) (hs : swapsWithSole [.Tuple [.Name x px, .Name y py, .Name z pz] kt pt] (.Tuple [a, b, c] k2 pt2) pos.line X.env = pure false := by rfl) :
    PS X (.Assign [.Tuple [.Name x px, .Name y py, .Name z pz] kt pt] (.Tuple [a, b, c] k2 pt2) pos) (tS (dc X T E) (sPar3S vs i j l ma mb mc)) := ps_imp (ps_par3 hc hN hi hj hl hij hil hjl hx hy hz (pa_cons ha (pa_cons hb (pa_cons hcc pa_nil hsc) hsb) hsa) hw hs) fun D σ H ⟨G, M, O, ρ, s, h⟩ => by
  obtain ⟨O1, s1, u1⟩ := s.freeze vs
  refine ⟨O1, _, s1.toE, ?_⟩
  unfold sPar3S at h
  cases q : ma (vis (freeze vs ρ)) with
  | exc c => rw [q] at h; exact aftS_exc s h
  | stk => rw [q] at h; exact h
  | ok da =>
    simp only [q, Res.bind_ok] at h
    intro v n1 H1 e1 r1 f1
    refine ⟨n1 ++ O1, _, s1.toE.hideNew e1 r1.there f1, ?_⟩
    cases q2 : mb (vis (freeze vs ρ)) with
    | exc c => rw [q2] at h; exact aftS_exc (s.ext e1) h
    | stk => rw [q2] at h; exact h
    | ok db =>
      simp only [q2, Res.bind_ok] at h
      intro u n2 H2 e2 r2 f2
      refine ⟨n2 ++ (n1 ++ O1), _, (s1.toE.hideNew e1 r1.there f1).hideNew e2 r2.there f2, ?_⟩
      cases q3 : mc (vis (freeze vs ρ)) with
      | exc c => rw [q3] at h; exact aftS_exc ((s.ext e1).ext e2) h
      | stk => rw [q3] at h; exact h
      | ok dd =>
        simp only [q3, Res.bind_ok] at h
        intro u3 n3 H3 e3 r3 f3
        refine ⟨v, u, u3, rfl, ?_⟩
        by_cases hf : (flatSl da && (flatSl db && flatSl dd)) = true
        · simp only [if_pos hf] at h
          obtain ⟨g1, g2⟩ := Bool.and_eq_true_iff.mp hf
          obtain ⟨g2, g3⟩ := Bool.and_eq_true_iff.mp g2
          exact h _ _ H3 (((s.take e1 (r1.flat g1) f1).take e2 (r2.flat g2) f2).take e3 (r3.flat g3) f3)
        · simp only [if_neg hf] at h
          exact h _ _ H3 (((s1.take e1 r1 f1).take e2 r2 f2).take e3 r3 f3)
end
end DL
namespace DL
open PySem PySem.Spec PyProof.Rows L2 LamX
/-! ## d[k] = v, of a dict that a slot alone holds -/
theorem mem_eq {a b : Addr} {l : List Addr} (e : a = b) (h : b ∈ l) : a ∈ l := e ▸ h
section
variable {κ α : Type} [DecidableEq κ]
def putTs (ks : List κ) (xs : List α) (k : κ) (y : α) : List κ × List α := if k ∈ ks then (ks, List.zipWith (fun k' x => if k' = k then y else x) ks xs) else (ks ++ [k], xs ++ [y])
theorem zip_any (k : κ) : ∀ (ks : List κ) (xs : List V), ks.length = xs.length → ((ks.zip xs).any fun kv => decide (kv.1 = k)) = decide (k ∈ ks)
  | [], _, _ => by simp
  | a :: ks, [], h => by simp at h
  | a :: ks, x :: xs, h => by
    have ih := zip_any k ks xs (by simpa using h)
    rw [List.zip_cons_cons, List.any_cons, ih]
    by_cases c : a = k
    · simp [c]
    · have c' : ¬ k = a := fun e => c e.symm
      simp [c, c']
theorem zip_map (k : κ) (y : V) : ∀ (ks : List κ) (xs : List V), (ks.zip xs).map (fun kv => if kv.1 = k then (kv.1, y) else kv) = ks.zip (List.zipWith (fun k' x => if k' = k then y else x) ks xs)
  | [], _ => by simp
  | a :: ks, [] => by simp
  | a :: ks, x :: xs => by
    rw [List.zip_cons_cons, List.map_cons, zip_map k y ks xs, List.zipWith_cons_cons, List.zip_cons_cons]
    by_cases c : a = k <;> simp [c]
theorem putK_zip {ks : List κ} {xs : List V} (h : ks.length = xs.length) (k : κ) (y : V) : putK (ks.zip xs) k y = (putTs ks xs k y).1.zip (putTs ks xs k y).2 := by
  unfold putK putTs
  rw [zip_any k ks xs h]
  by_cases c : k ∈ ks
  · simp only [c, decide_true, if_true]; exact zip_map k y ks xs
  · simp only [c, decide_false, if_false]
    rw [if_neg (by simp), List.zip_append h]; rfl
theorem putTs_len {ks : List κ} {xs : List α} (h : ks.length = xs.length) (k : κ) (y : α) : (putTs ks xs k y).1.length = (putTs ks xs k y).2.length := by
  unfold putTs
  split
  · simp [List.length_zipWith, h]
  · simp [h]
theorem putTs_nodup {ks : List κ} {xs : List α} (h : ks.Nodup) (k : κ) (y : α) : (putTs ks xs k y).1.Nodup := by
  unfold putTs
  split
  · exact h
  · rename_i c
    exact List.nodup_append.mpr ⟨h, by simp, fun a ha b hb e => by rw [List.mem_singleton.mp hb] at e; exact c (e ▸ ha)⟩
theorem putTs_mem {ks : List κ} {xs : List α} {k : κ} {y : α} {x : κ} (h : x ∈ (putTs ks xs k y).1) : x ∈ ks ∨ x = k := by
  unfold putTs at h
  split at h
  · exact .inl h
  · rcases List.mem_append.mp h with h | h
    · exact .inl h
    · exact .inr (List.mem_singleton.mp h)
theorem TrsAt.zipWith {K : PySem.W.Frag} {Hv H : Hp} {y : V} {d : D} (r : RD K Hv y d) (k : κ) : ∀ {ks : List κ} {vs : List V} {ts : List Tr} {fp : List Addr}, ks.length = vs.length → TrsAt K Hv H vs ts fp → ∃ fp', TrsAt K Hv H (List.zipWith (fun k' x => if k' = k then y else x) ks vs) (List.zipWith (fun k' x => if k' = k then .leaf d else x) ks ts) fp' ∧ fp'.Sublist fp
  | [], vs, ts, fp, l, h => by
    cases vs with
    | cons _ _ => simp at l
    | nil =>
      cases ts with
      | nil => exact ⟨fp, by simpa using h, .refl _⟩
      | cons t ts => simp only [TrsAt] at h; obtain ⟨_, _, _, _, e, _⟩ := h; cases e
  | a :: ks, [], ts, fp, l, h => by simp at l
  | a :: ks, v :: vs, [], fp, l, h => by simp only [TrsAt] at h; cases h.1
  | a :: ks, v :: vs, t :: ts, fp, l, h => by
    simp only [TrsAt] at h
    obtain ⟨v', r', f, g, e, h2, h3, rfl⟩ := h
    cases e
    obtain ⟨g', i1, i2⟩ := TrsAt.zipWith r k (by simpa using l) h3
    rw [List.zipWith_cons_cons, List.zipWith_cons_cons]
    by_cases c : a = k
    · refine ⟨[] ++ g', ?_, (List.nil_sublist f).append i2⟩
      simp only [TrsAt]
      rw [if_pos c, if_pos c]
      exact ⟨y, _, [], g', rfl, by simp only [TrAt]; exact ⟨r, trivial⟩, i1, rfl⟩
    · refine ⟨f ++ g', ?_, (List.Sublist.refl f).append i2⟩
      simp only [TrsAt]
      rw [if_neg c, if_neg c]
      exact ⟨v, _, f, g', rfl, h2, i1, rfl⟩
end
theorem TrsAt.snoc {K : PySem.W.Frag} {Hv H : Hp} {y : V} {t : Tr} {f2 : List Addr} (r : TrAt K Hv H y t f2) : ∀ {vs : List V} {ts : List Tr} {fp : List Addr}, TrsAt K Hv H vs ts fp → TrsAt K Hv H (vs ++ [y]) (ts ++ [t]) (fp ++ f2)
  | vs, [], fp, h => by
    simp only [TrsAt] at h
    rw [h.1, h.2]
    simp only [List.nil_append, TrsAt]
    exact ⟨y, [], f2, [], rfl, r, ⟨rfl, rfl⟩, by simp⟩
  | vs, t' :: ts, fp, h => by
    simp only [TrsAt] at h
    obtain ⟨v, r', f, g, rfl, h2, h3, rfl⟩ := h
    rw [List.cons_append, List.cons_append, List.append_assoc]
    simp only [TrsAt]
    exact ⟨v, r' ++ [y], f, g ++ f2, rfl, h2, TrsAt.snoc r h3, rfl⟩
theorem TrsAt.put {κ : Type} [DecidableEq κ] {K : PySem.W.Frag} {Hv H : Hp} {y : V} {d : D} (r : RD K Hv y d) (k : κ) {ks : List κ} {vs : List V} {ts : List Tr} {fp : List Addr} (l : ks.length = vs.length) (h : TrsAt K Hv H vs ts fp) :
    ∃ fp', TrsAt K Hv H (putTs ks vs k y).2 (putTs ks ts k (.leaf d)).2 fp' ∧ fp'.Sublist fp := by
  unfold putTs
  split
  · exact TrsAt.zipWith r k l h
  · exact ⟨fp ++ [], TrsAt.snoc (by simp only [TrAt]; exact ⟨r, trivial⟩) h, by simp⟩
theorem putTs_keys {κ α β : Type} [DecidableEq κ] (ks : List κ) (xs : List α) (zs : List β) (k : κ) (y : α) (z : β) : (putTs ks xs k y).1 = (putTs ks zs k z).1 := by
  unfold putTs; split <;> rfl
theorem putTs_few {κ α : Type} [DecidableEq κ] (ks : List κ) (xs : List α) (k : κ) (y : α) : (putTs ks xs k y).1.length ≤ ks.length + 1 := by
  unfold putTs; split <;> simp
def putS (i : Nat) (k d : D) (ρ : EnvS) : Out := match ρ[i]? with
  | some (.tre (.dK ks ts)) => (match kD k with
    | some kk => if ks.length < LIM then .next (ρ.set i (.tre (.dK (putTs ks ts kk (.leaf d)).1 (putTs ks ts kk (.leaf d)).2))) else .stk
    | none => .stk)
  | some (.tre (.dT ks ts)) => (match tupKs k with
    | some kk => if ks.length < LIM then .next (ρ.set i (.tre (.dT (putTs ks ts kk (.leaf d)).1 (putTs ks ts kk (.leaf d)).2))) else .stk
    | none => .stk)
  | _ => .stk
def sPut (vs : List Nat) (i : Nat) (mk me : EnvD → Res D) : EnvS → Out := fun ρ => match ρ[i]? with
  | some (.tre _) => (match (me (vis (freeze vs ρ))).bind fun d => (mk (vis (freeze vs ρ))).bind fun k => .ok (d, k) with
    | .ok (d, k) => putS i k d (if isFlat d = true then ρ else freeze vs ρ)
    | .exc c => .exc c
    | .stk => .stk)
  | _ => .stk
theorem keyOk_rd {K : PySem.W.Frag} {H : Hp} {v : V} {d : D} {k : Key} (r : RD K H v d) (e : kD d = some k) : KeyOk k := by
  cases d with
  | int i => cases e; exact trivial
  | str s => simp only [RD] at r; cases e; exact r.2
  | _ => cases e
theorem keysOk_rd {K : PySem.W.Frag} {H : Hp} : ∀ {vs : List V} {ds : List D} {ks : List Key}, RDs K H vs ds → kDs ds = some ks → ∀ k ∈ ks, KeyOk k
  | vs, [], ks, r, e => by cases e; exact fun k h => nomatch h
  | vs, d :: ds, ks, r, e => by
    simp only [RDs] at r
    obtain ⟨v, us, rfl, h1, h2⟩ := r
    simp only [kDs, Option.bind_eq_some_iff, Option.map_eq_some_iff] at e
    obtain ⟨k, e1, ks', e2, rfl⟩ := e
    intro x hx
    rcases List.mem_cons.mp hx with rfl | hx
    · exact keyOk_rd h1 e1
    · exact keysOk_rd h2 e2 x hx
theorem tabs_updO {T : List (Addr × Str)} {H : Hp} {p : Addr} {u o : HO} (t : Tabs T H) (hp : H p = some u) (h1 : NonT u) (h2 : ∀ c q, u ≠ CodeO c q) : Tabs T (upd H p o) := fun x hx => by
  obtain ⟨ps, g1, g2, g3⟩ := t x hx
  refine ⟨ps, by rw [upd_ne (ne_of g1 hp (fun z => h1 ps z.symm))]; exact g1, g2, fun pos cv hc => ?_⟩
  obtain ⟨c, e1, e2⟩ := g3 pos cv hc
  exact ⟨c, e1, by rw [upd_ne (ne_of e2 hp (fun z => h2 _ _ z.symm))]; exact e2⟩
section
variable {C : DC} {G H : Hp} {M O : List Addr} {σ : L2.St} {ρ : EnvS}
theorem StS.putK (s : StS C G M O σ ρ H) {i : Nat} {ks : List Key} {ts : List Tr} {k : Key} {y : V} {d : D} (hi : ρ[i]? = some (.tre (.dK ks ts))) (hk : KeyOk k) (r : RD C.K (hide O H) y d) (hz : ks.length < LIM) :
    ∃ p H', σ[i]? = some (some (.ref p)) ∧ DPut H p (kV k) y H' ∧ StS C G M O σ (ρ.set i (.tre (.dK (putTs ks ts k (.leaf d)).1 (putTs ks ts k (.leaf d)).2))) H' := by
  obtain ⟨v, fp, h1, h2, h3, h4, up⟩ := s.tre_put hi
  simp only [TrAt] at h2
  obtain ⟨p, vs, f, rfl, g1, ⟨g2, g3, g4⟩, g5, rfl⟩ := h2
  obtain ⟨np, ndf⟩ := List.nodup_cons.mp h3
  have hl : (ks.zip vs).length < sizeLine := by
    rw [List.length_zip]
    have := lim_le (n := ks.length + 1) hz
    omega
  refine ⟨p, _, h1, .k g1 hl, ?_⟩
  obtain ⟨f', t1, t2⟩ := TrsAt.put r k g2 g5
  have hid : hide O (upd H p (.dK (L2.putK (ks.zip vs) k y))) = hide O H := hide_upd_in (h4 p List.mem_cons_self).1
  have := up (upd H p (.dK (L2.putK (ks.zip vs) k y))) [] (.dK (putTs ks ts k (.leaf d)).1 (putTs ks ts k (.leaf d)).2) (p :: f') (fun _ _ _ _ z => nomatch z) (fun a ha => .inl ?_) ?_ (tabs_updO s.tab g1 (fun ps z => by cases z) (fun c q z => by unfold CodeO at z; cases z)) (fun b o hb _ nb => ?_) (fun a ha => ?_) (fun a ha => nomatch ha) ?_
  · simpa using this
  · rcases List.mem_cons.mp ha with rfl | ha
    · exact List.mem_cons_self
    · exact List.mem_cons_of_mem _ (t2.subset ha)
  · exact List.nodup_cons.mpr ⟨fun z => np (t2.subset z), t2.nodup ndf⟩
  · rw [upd_ne (fun e => nb (mem_eq e List.mem_cons_self))]; exact hb
  · by_cases e : a = p
    · subst e; exact ⟨_, upd_same, (fun ps z => by cases z), (fun ps z => by cases z)⟩
    · obtain ⟨o, o1, o2⟩ := TrAt.there (K := C.K) (Hv := hide O H) (H := H) (v := .ref p) (t := .dK ks ts) (fp := p :: f) (by simp only [TrAt]; exact ⟨p, vs, f, rfl, g1, ⟨g2, g3, g4⟩, g5, rfl⟩) a ha
      exact ⟨o, by rw [upd_ne e]; exact o1, o2⟩
  · simp only [TrAt]
    rw [List.nil_append, hid]
    refine ⟨p, (putTs ks vs k y).2, f', rfl, ?_, ⟨?_, putTs_nodup g3 k _, fun x hx => ?_⟩, t1.mono (fun _ _ h _ => h) (fun a ha o ho _ => ?_), rfl⟩
    · rw [upd_same, putK_zip g2, putTs_keys ks ts vs k (.leaf d) y]
    · rw [putTs_keys ks ts vs k (.leaf d) y]; exact putTs_len g2 k y
    · rcases putTs_mem hx with hx | rfl
      · exact g4 x hx
      · exact hk
    · rw [upd_ne (fun e => np (t2.subset (mem_eq e.symm ha)))]; exact ho
theorem StS.putT (s : StS C G M O σ ρ H) {i : Nat} {ks : List (List Key)} {ts : List Tr} {k : List Key} {y : V} {d : D} {b : Addr} (hi : ρ[i]? = some (.tre (.dT ks ts))) (hk : ∀ x ∈ k, KeyOk x) (hb : H b = some (.tup (k.map kV))) (r : RD C.K (hide O H) y d) (hz : ks.length < LIM) :
    ∃ p H', σ[i]? = some (some (.ref p)) ∧ DPut H p (.ref b) y H' ∧ StS C G M O σ (ρ.set i (.tre (.dT (putTs ks ts k (.leaf d)).1 (putTs ks ts k (.leaf d)).2))) H' := by
  obtain ⟨v, fp, h1, h2, h3, h4, up⟩ := s.tre_put hi
  simp only [TrAt] at h2
  obtain ⟨p, vs, f, rfl, g1, ⟨g2, g3, g4⟩, g5, rfl⟩ := h2
  obtain ⟨np, ndf⟩ := List.nodup_cons.mp h3
  have hl : (ks.zip vs).length < sizeLine := by
    rw [List.length_zip]
    have := lim_le (n := ks.length + 1) hz
    omega
  refine ⟨p, _, h1, .t g1 hb hl, ?_⟩
  obtain ⟨f', t1, t2⟩ := TrsAt.put r k g2 g5
  have hid : hide O (upd H p (.dT (L2.putK (ks.zip vs) k y))) = hide O H := hide_upd_in (h4 p List.mem_cons_self).1
  have := up (upd H p (.dT (L2.putK (ks.zip vs) k y))) [] (.dT (putTs ks ts k (.leaf d)).1 (putTs ks ts k (.leaf d)).2) (p :: f') (fun _ _ _ _ z => nomatch z) (fun a ha => .inl ?_) ?_ (tabs_updO s.tab g1 (fun ps z => by cases z) (fun c q z => by unfold CodeO at z; cases z)) (fun b o hb _ nb => ?_) (fun a ha => ?_) (fun a ha => nomatch ha) ?_
  · simpa using this
  · rcases List.mem_cons.mp ha with rfl | ha
    · exact List.mem_cons_self
    · exact List.mem_cons_of_mem _ (t2.subset ha)
  · exact List.nodup_cons.mpr ⟨fun z => np (t2.subset z), t2.nodup ndf⟩
  · rw [upd_ne (fun e => nb (mem_eq e List.mem_cons_self))]; exact hb
  · by_cases e : a = p
    · subst e; exact ⟨_, upd_same, (fun ps z => by cases z), (fun ps z => by cases z)⟩
    · obtain ⟨o, o1, o2⟩ := TrAt.there (K := C.K) (Hv := hide O H) (H := H) (v := .ref p) (t := .dT ks ts) (fp := p :: f) (by simp only [TrAt]; exact ⟨p, vs, f, rfl, g1, ⟨g2, g3, g4⟩, g5, rfl⟩) a ha
      exact ⟨o, by rw [upd_ne e]; exact o1, o2⟩
  · simp only [TrAt]
    rw [List.nil_append, hid]
    refine ⟨p, (putTs ks vs k y).2, f', rfl, ?_, ⟨?_, putTs_nodup g3 k _, fun x hx => ?_⟩, t1.mono (fun _ _ h _ => h) (fun a ha o ho _ => ?_), rfl⟩
    · rw [upd_same, putK_zip g2, putTs_keys ks ts vs k (.leaf d) y]
    · rw [putTs_keys ks ts vs k (.leaf d) y]; exact putTs_len g2 k y
    · rcases putTs_mem hx with hx | rfl
      · exact g4 x hx
      · exact hk
    · rw [upd_ne (fun e => np (t2.subset (mem_eq e.symm ha)))]; exact ho
end
section
variable {X : Cx} {T : List (Addr × Str)} {E : XK} {o ix e : Expr} {pos pos' : Pos} {mk me : EnvD → Res D}
theorem q_put (vs : List Nat) {i : Nat} (hu : X.A.units + 1 < cLine) (ho : PE X o (tVar i)) (hk : PE X ix (tD (dc X T E) mk)) (he : PE X e (tD (dc X T E) me)) (hs : swapsWith e (some (.Subscript o ix pos')) pos.line X.env = pure false := by rfl) :
    PS X (.Assign [.Subscript o ix pos'] e pos) (tS (dc X T E) (sPut vs i mk me)) := ps_imp (ps_dput hu ho hk he hs) fun D σ H ⟨G, M, O, ρ, s, h⟩ => by
  obtain ⟨O1, s1, u1⟩ := s.freeze vs
  refine ⟨O1, _, s1.toE, ?_⟩
  unfold sPut at h
  cases e0 : ρ[i]? with
  | none => rw [e0] at h; exact h.elim
  | some sl =>
  rw [e0] at h
  cases sl with
  | no => exact h.elim
  | val _ => exact h.elim
  | own _ => exact h.elim
  | tre t0 =>
  obtain ⟨v0, fp0, hv0, _⟩ := s.tre_put e0
  cases q : me (vis (freeze vs ρ)) with
  | exc c => simp only [q] at h; exact aftS_exc s h
  | stk => simp only [q] at h; exact h
  | ok d =>
    simp only [q, Res.bind_ok] at h
    intro v H1 e1 r1
    refine ⟨v0, hv0, ?_⟩
    have go : ∀ {O2 : List Addr} {ρ2 : EnvS} {k : DL.D} {u : V} {H2 : Hp}, StS (dc X T E) G M O2 σ ρ2 H2 → RD X.K (hide O2 H2) v d → (∃ Hk, RD X.K Hk u k ∧ ExtN Hk H2) → aftS (dc X T E) G M (putS i k d ρ2) D → ∃ (p : Addr) (H4 : Hp), σ[i]? = some (some (.ref p)) ∧ DPut H2 p u v H4 ∧ D.nx σ H4 := fun {O2 ρ2 k u H2} s2 r2 ⟨Hk, rk, ek⟩ h' => by
      unfold putS at h'
      split at h'
      · rename_i ks ts e
        cases ek : kD k with
        | none => rw [ek] at h'; exact h'.elim
        | some kk =>
          rw [ek] at h'
          obtain ⟨hz, h'⟩ : ks.length < LIM ∧ aftS (dc X T E) G M (.next (ρ2.set i (.tre (.dK (putTs ks ts kk (.leaf d)).1 (putTs ks ts kk (.leaf d)).2)))) D := by
            by_cases c : ks.length < LIM
            · refine ⟨c, ?_⟩
              have h'' : aftS (dc X T E) G M (if ks.length < LIM then .next (ρ2.set i (.tre (.dK (putTs ks ts kk (.leaf d)).1 (putTs ks ts kk (.leaf d)).2))) else .stk) D := h'
              rw [if_pos c] at h''; exact h''
            · have h'' : aftS (dc X T E) G M (if ks.length < LIM then .next (ρ2.set i (.tre (.dK (putTs ks ts kk (.leaf d)).1 (putTs ks ts kk (.leaf d)).2))) else .stk) D := h'
              rw [if_neg c] at h''; exact h''.elim
          obtain ⟨p, H4, b1, b2, b3⟩ := s2.putK e (keyOk_rd rk ek) r2 hz
          exact ⟨p, H4, b1, by rw [kD_rd rk ek]; exact b2, h' O2 σ H4 b3⟩
      · rename_i ks ts e
        cases ek2 : tupKs k with
        | none => rw [ek2] at h'; exact h'.elim
        | some kk =>
          rw [ek2] at h'
          obtain ⟨hz, h'⟩ : ks.length < LIM ∧ aftS (dc X T E) G M (.next (ρ2.set i (.tre (.dT (putTs ks ts kk (.leaf d)).1 (putTs ks ts kk (.leaf d)).2)))) D := by
            by_cases c : ks.length < LIM
            · refine ⟨c, ?_⟩
              have h'' : aftS (dc X T E) G M (if ks.length < LIM then .next (ρ2.set i (.tre (.dT (putTs ks ts kk (.leaf d)).1 (putTs ks ts kk (.leaf d)).2))) else .stk) D := h'
              rw [if_pos c] at h''; exact h''
            · have h'' : aftS (dc X T E) G M (if ks.length < LIM then .next (ρ2.set i (.tre (.dT (putTs ks ts kk (.leaf d)).1 (putTs ks ts kk (.leaf d)).2))) else .stk) D := h'
              rw [if_neg c] at h''; exact h''.elim
          cases k with
          | tup ds =>
            simp only [RD] at rk
            obtain ⟨b, ws, rfl, tb, _, rs⟩ := rk
            have hw := kDs_rd rs ek2
            subst hw
            obtain ⟨p, H4, b1, b2, b3⟩ := s2.putT e (keysOk_rd rs ek2) (ek b _ tb (fun ps z => by cases z)) r2 hz
            exact ⟨p, H4, b1, b2, h' O2 σ H4 b3⟩
          | _ => cases ek2
      · exact h'.elim
    refine ⟨O1, _, (s1.ext e1).toE, ?_⟩
    cases q2 : mk (vis (freeze vs ρ)) with
    | exc c => simp only [q2] at h; exact aftS_exc (s.ext e1) h
    | stk => simp only [q2] at h; exact h
    | ok k =>
      simp only [q2, Res.bind_ok] at h
      intro u H2 e2 r2
      have fin : (∃ (p : Addr) (H4 : Hp), σ[i]? = some (some (.ref p)) ∧ DPut H2 p u v H4 ∧ D.nx σ H4) → ∃ a H4, v0 = .ref a ∧ DPut H2 a u v H4 ∧ D.nx σ H4 := fun ⟨p, H4, b1, b2, b3⟩ => by
        rw [hv0] at b1; cases b1
        exact ⟨p, H4, rfl, b2, b3⟩
      by_cases hf : isFlat d = true
      · simp only [if_pos hf] at h
        exact fin (go ((s.ext e1).ext e2) (flat_any r1 hf) ⟨_, r2, hide_le _ _⟩ h)
      · simp only [if_neg hf] at h
        exact fin (go ((s1.ext e1).ext e2) (r1.ext (hide_mono O1 e2.old)) ⟨_, r2, hide_le _ _⟩ h)
end
end DL
namespace DL
open PySem PySem.Spec PyProof.Rows L2 LamX
/-! ## lists of lists that a slot alone holds -/
def leaves (ds : List D) : Tr := .lst (ds.map .leaf)
theorem leaves_at {K : PySem.W.Frag} {Hv H : Hp} : ∀ {vs : List V} {ds : List D}, RDs K Hv vs ds → TrsAt K Hv H vs (ds.map .leaf) []
  | vs, [], r => by simp only [RDs] at r; simp only [List.map_nil, TrsAt]; exact ⟨r, trivial⟩
  | vs, d :: ds, r => by
    simp only [RDs] at r
    obtain ⟨v, us, rfl, h1, h2⟩ := r
    simp only [List.map_cons, TrsAt]
    exact ⟨v, us, [], [], rfl, by simp only [TrAt]; exact ⟨h1, trivial⟩, leaves_at h2, rfl⟩
def mL1T (ml : EnvD → Res (List D)) : EnvD → Res Sl := fun ρ => (ml ρ).bind fun ds => .ok (.tre (.lst [leaves ds]))
/-- the thing at place j -/
def sub1 (ts : List Tr) (k : Int) : Option (Nat × List Tr) := (ixN ts.length k).bind fun j => match ts[j]? with
  | some (.lst us) => some (j, us)
  | _ => none
theorem TrsAt.len {K : PySem.W.Frag} {Hv H : Hp} : ∀ {vs : List V} {ts : List Tr} {fp : List Addr}, TrsAt K Hv H vs ts fp → vs.length = ts.length
  | vs, [], fp, h => by simp only [TrsAt] at h; rw [h.1]; rfl
  | vs, t :: ts, fp, h => by
    simp only [TrsAt] at h
    obtain ⟨v, r, f, g, rfl, _, h3, _⟩ := h
    simp [TrsAt.len h3]
/-- one of the things, and another in its place -/
theorem TrsAt.at_ {K : PySem.W.Frag} {Hv H : Hp} : ∀ {vs : List V} {ts : List Tr} {fp : List Addr} {j : Nat} {t : Tr}, TrsAt K Hv H vs ts fp → ts[j]? = some t → fp.Nodup → ∃ v f, vs[j]? = some v ∧ TrAt K Hv H v t f ∧ f.Nodup ∧ (∀ a ∈ f, a ∈ fp) ∧
    ∀ (H' : Hp) (t' : Tr) (f' : List Addr), (∀ b o, H b = some o → NonT o → b ∉ f → H' b = some o) → TrAt K Hv H' v t' f' → (∀ a ∈ f', a ∈ f) → f'.Nodup → ∃ fp', TrsAt K Hv H' vs (ts.set j t') fp' ∧ (∀ a ∈ fp', a ∈ fp) ∧ fp'.Nodup
  | vs, [], fp, j, t, h, e, nd => by simp at e
  | vs, t0 :: ts, fp, 0, t, h, e, nd => by
    simp only [TrsAt] at h
    obtain ⟨v, r, f, g, rfl, h2, h3, rfl⟩ := h
    simp at e; subst e
    obtain ⟨n1, n2, n3⟩ := List.nodup_append.mp nd
    refine ⟨v, f, rfl, h2, n1, fun a ha => List.mem_append_left _ ha, fun H' t' f' old r' sub nd' => ⟨f' ++ g, ?_, fun a ha => ?_, ?_⟩⟩
    · rw [List.set_cons_zero]
      simp only [TrsAt]
      exact ⟨v, r, f', g, rfl, r', h3.mono (fun _ _ h _ => h) (fun a ha o ho t => old a o ho t fun z => n3 a z a ha rfl), rfl⟩
    · rcases List.mem_append.mp ha with ha | ha
      · exact List.mem_append_left _ (sub a ha)
      · exact List.mem_append_right _ ha
    · exact List.nodup_append.mpr ⟨nd', n2, fun a ha b hb => n3 a (sub a ha) b hb⟩
  | vs, t0 :: ts, fp, j + 1, t, h, e, nd => by
    simp only [TrsAt] at h
    obtain ⟨v, r, f, g, rfl, h2, h3, rfl⟩ := h
    obtain ⟨n1, n2, n3⟩ := List.nodup_append.mp nd
    obtain ⟨v', f', a1, a2, a3, a4, up⟩ := TrsAt.at_ h3 (j := j) (by simpa using e) n2
    refine ⟨v', f', by simpa using a1, a2, a3, fun a ha => List.mem_append_right _ (a4 a ha), fun H' t' f'' old r' sub nd' => ?_⟩
    obtain ⟨g', b1, b2, b3⟩ := up H' t' f'' old r' sub nd'
    refine ⟨f ++ g', ?_, fun a ha => ?_, ?_⟩
    · rw [List.set_cons_succ]
      simp only [TrsAt]
      exact ⟨v, r, f, g', rfl, h2.mono (fun _ _ h _ => h) (fun a ha o ho t => old a o ho t fun z => n3 a ha a (a4 a z) rfl), b1, rfl⟩
    · rcases List.mem_append.mp ha with ha | ha
      · exact List.mem_append_left _ ha
      · exact List.mem_append_right _ (b2 a ha)
    · exact List.nodup_append.mpr ⟨n1, b3, fun a ha b hb => n3 a ha b (b2 b hb)⟩
/-- an item is a datum from now on -/
theorem TrsAt.setLeaf {K : PySem.W.Frag} {Hv H : Hp} {y : V} {d : D} (r : RD K Hv y d) : ∀ {vs : List V} {ts : List Tr} {fp : List Addr} (j : Nat), TrsAt K Hv H vs ts fp → ∃ fp', TrsAt K Hv H (vs.set j y) (ts.set j (.leaf d)) fp' ∧ fp'.Sublist fp
  | vs, [], fp, j, h => by simp only [TrsAt] at h; rw [h.1, h.2]; exact ⟨[], by simp [TrsAt], .refl _⟩
  | vs, t :: ts, fp, 0, h => by
    simp only [TrsAt] at h
    obtain ⟨v, r', f, g, rfl, h2, h3, rfl⟩ := h
    refine ⟨[] ++ g, ?_, (List.nil_sublist f).append (.refl g)⟩
    rw [List.set_cons_zero, List.set_cons_zero]
    simp only [TrsAt]
    exact ⟨y, r', [], g, rfl, by simp only [TrAt]; exact ⟨r, trivial⟩, h3, rfl⟩
  | vs, t :: ts, fp, j + 1, h => by
    simp only [TrsAt] at h
    obtain ⟨v, r', f, g, rfl, h2, h3, rfl⟩ := h
    obtain ⟨g', a1, a2⟩ := TrsAt.setLeaf r j h3
    refine ⟨f ++ g', ?_, (List.Sublist.refl f).append a2⟩
    rw [List.set_cons_succ, List.set_cons_succ]
    simp only [TrsAt]
    exact ⟨v, _, f, g', rfl, h2, a1, rfl⟩
def putS2 (i : Nat) (k k2 d : D) (ρ : EnvS) : Out := match ρ[i]?, k, k2 with
  | some (.tre (.lst ts)), .int a, .int b => (match sub1 ts a with
    | some (j, us) => (match ixN us.length b with
      | some j2 => .next (ρ.set i (.tre (.lst (ts.set j (.lst (us.set j2 (.leaf d)))))))
      | none => .stk)
    | none => .stk)
  | _, _, _ => .stk
section
variable {C : DC} {G H : Hp} {M O : List Addr} {σ : L2.St} {ρ : EnvS}
theorem StS.put2 (s : StS C G M O σ ρ H) {i : Nat} {ts us : List Tr} {a b : Int} {j j2 : Nat} {y : V} {d : D} (hi : ρ[i]? = some (.tre (.lst ts))) (h1 : sub1 ts a = some (j, us)) (h2 : ixN us.length b = some j2) (r : RD C.K (hide O H) y d) :
    ∃ p vs q ws, σ[i]? = some (some (.ref p)) ∧ H p = some (.lst vs) ∧ atI vs a = some (.ref q) ∧ H q = some (.lst ws) ∧ ixN ws.length b = some j2 ∧ StS C G M O σ (ρ.set i (.tre (.lst (ts.set j (.lst (us.set j2 (.leaf d))))))) (upd H q (.lst (ws.set j2 y))) := by
  obtain ⟨v, fp, g1, g2, g3, g4, up⟩ := s.tre_put hi
  have g2' := g2
  simp only [TrAt] at g2
  obtain ⟨p, vs, f, rfl, hp, hz, ht, rfl⟩ := g2
  obtain ⟨np, ndf⟩ := List.nodup_cons.mp g3
  unfold sub1 at h1
  obtain ⟨j', e1, e2⟩ := Option.bind_eq_some_iff.mp h1
  have e3 : ts[j']? = some (.lst us) ∧ j' = j := by
    split at e2
    · rename_i us' e; cases e2; exact ⟨e, rfl⟩
    · cases e2
  obtain ⟨e3, rfl⟩ := e3
  obtain ⟨u, fu, a1, a2, a3, a4, up2⟩ := TrsAt.at_ ht e3 ndf
  have a2' := a2
  simp only [TrAt] at a2
  obtain ⟨q, ws, fq, rfl, hq, hzq, htq, rfl⟩ := a2
  obtain ⟨nq, ndq⟩ := List.nodup_cons.mp a3
  have lw : ws.length = us.length := htq.len
  have qf : q ∈ f := a4 q List.mem_cons_self
  have qO : q ∈ O := (g4 q (List.mem_cons_of_mem _ qf)).1
  have qp : q ≠ p := fun e => np (mem_eq e.symm qf)
  refine ⟨p, vs, q, ws, g1, hp, ?_, hq, by rw [lw]; exact h2, ?_⟩
  · unfold atI
    rw [ht.len, e1]; exact a1
  have hid : hide O (upd H q (.lst (ws.set j2 y))) = hide O H := hide_upd_in qO
  obtain ⟨fq', b1, b2⟩ := TrsAt.setLeaf r j2 htq
  obtain ⟨f', c1, c2, c3⟩ := up2 (upd H q (.lst (ws.set j2 y))) (.lst (us.set j2 (.leaf d))) (q :: fq') (fun b o hb _ nb => by rw [upd_ne (fun e => nb (mem_eq e List.mem_cons_self))]; exact hb)
    (by
      simp only [TrAt]
      exact ⟨q, _, fq', rfl, upd_same, by rw [List.length_set]; exact hzq, b1.mono (fun _ _ h _ => h) (fun a ha o ho _ => by rw [upd_ne (fun e => nq (b2.subset (mem_eq e.symm ha)))]; exact ho), rfl⟩)
    (fun a ha => by
      rcases List.mem_cons.mp ha with rfl | ha
      · exact List.mem_cons_self
      · exact List.mem_cons_of_mem _ (b2.subset ha)) (List.nodup_cons.mpr ⟨fun z => nq (b2.subset z), b2.nodup ndq⟩)
  have := up (upd H q (.lst (ws.set j2 y))) [] (.lst (ts.set j' (.lst (us.set j2 (.leaf d))))) (p :: f') (fun _ _ _ _ z => nomatch z) (fun a ha => .inl ?_) (List.nodup_cons.mpr ⟨fun z => np (c2 p z), c3⟩) (tabs_upd s.tab hq) (fun b o hb _ nb => ?_) (fun a ha => ?_) (fun a ha => nomatch ha) ?_
  · simpa using this
  · rcases List.mem_cons.mp ha with rfl | ha
    · exact List.mem_cons_self
    · exact List.mem_cons_of_mem _ (c2 a ha)
  · rw [upd_ne (fun e => nb (mem_eq e (List.mem_cons_of_mem _ qf)))]; exact hb
  · by_cases e : a = q
    · subst e; exact ⟨_, upd_same, (fun ps z => by cases z), (fun ps z => by cases z)⟩
    · obtain ⟨o, o1, o2⟩ := g2'.there a ha
      exact ⟨o, by rw [upd_ne e]; exact o1, o2⟩
  · simp only [TrAt]
    rw [List.nil_append, hid]
    exact ⟨p, vs, f', rfl, by rw [upd_ne qp.symm]; exact hp, hz, c1, rfl⟩
/-- a new list behind the others -/
theorem StS.appT (s : StS C G M O σ ρ H) {i : Nat} {ts : List Tr} {ds : List D} {q : Addr} {ws : List V} {H' : Hp} (hi : ρ[i]? = some (.tre (.lst ts))) (e : ExtT C H H') (hq : H' q = some (.lst ws)) (hw : ws.length ≤ sizeLine) (r : RDs C.K (hide (q :: O) H') ws ds) (n : ∀ b o, H b = some o → NonT o → b ≠ q) (hz : ts.length < LIM) :
    ∃ p vs, σ[i]? = some (some (.ref p)) ∧ H' p = some (.lst vs) ∧ vs.length < sizeLine ∧ StS C G M (q :: O) σ (ρ.set i (.tre (.lst (ts ++ [leaves ds])))) (upd H' p (.lst (vs ++ [.ref q]))) := by
  obtain ⟨v, fp, g1, g2, g3, g4, up⟩ := s.tre_put hi
  have g2' := g2
  simp only [TrAt] at g2
  obtain ⟨p, vs, f, rfl, hp, hzv, ht, rfl⟩ := g2
  obtain ⟨np, ndf⟩ := List.nodup_cons.mp g3
  have hp' : H' p = some (.lst vs) := e.old p _ hp (fun ps z => by cases z)
  have qp : p ≠ q := n p _ hp (fun ps z => by cases z)
  have nq : ∀ b o, H b = some o → NonT o → b ∉ [q] := fun b o hb t z => n b o hb t (List.mem_singleton.mp z)
  have lv : vs.length = ts.length := ht.len
  have hz' : vs.length + 1 ≤ sizeLine := lim_le (by rw [lv]; exact hz)
  have qO : p ∈ O := (g4 p List.mem_cons_self).1
  have fq : q ∉ f := fun z => by
    obtain ⟨o, o1, o2⟩ := ht.there q z
    exact n q o o1 o2.1 rfl
  refine ⟨p, vs, g1, hp', by omega, ?_⟩
  have hid : hide ([q] ++ O) (upd H' p (.lst (vs ++ [.ref q]))) = hide (q :: O) H' := hide_upd_in (List.mem_cons_of_mem _ qO)
  have := up (upd H' p (.lst (vs ++ [.ref q]))) [q] (.lst (ts ++ [leaves ds])) (p :: (f ++ [q])) nq (fun a ha => ?_) (List.nodup_cons.mpr ⟨fun z => ?_, List.nodup_append.mpr ⟨ndf, by simp, fun a ha b hb e => fq (by rw [List.mem_singleton.mp hb] at e; exact mem_eq e.symm ha)⟩⟩) (tabs_upd e.tab hp') (fun b o hb t nb => ?_) (fun a ha => ?_) (fun a ha => ?_) ?_
  · simpa using this
  · rcases List.mem_cons.mp ha with rfl | ha
    · exact .inl List.mem_cons_self
    · rcases List.mem_append.mp ha with ha | ha
      · exact .inl (List.mem_cons_of_mem _ ha)
      · exact .inr ha
  · rcases List.mem_append.mp z with z | z
    · exact np z
    · exact qp (List.mem_singleton.mp z)
  · rw [upd_ne (fun e => nb (mem_eq e List.mem_cons_self))]; exact e.old b o hb t
  · by_cases ea : a = p
    · subst ea; exact ⟨_, upd_same, (fun ps z => by cases z), (fun ps z => by cases z)⟩
    · obtain ⟨o, o1, o2⟩ := g2'.there a ha
      exact ⟨o, by rw [upd_ne ea]; exact e.old a o o1 o2.1, o2⟩
  · rw [List.mem_singleton.mp ha]
    exact ⟨_, by rw [upd_ne qp.symm]; exact hq, (fun ps z => by cases z), (fun ps z => by cases z)⟩
  · simp only [TrAt]
    rw [hid]
    refine ⟨p, vs ++ [.ref q], f ++ [q], rfl, upd_same, by rw [List.length_append]; exact hz', TrsAt.snoc ?_ (ht.mono (fresh_le e.old n) (fun a ha o ho t => ?_)), rfl⟩
    · unfold leaves
      simp only [TrAt]
      exact ⟨q, ws, [], rfl, by rw [upd_ne qp.symm]; exact hq, hw, leaves_at r, rfl⟩
    · rw [upd_ne (fun e => np (mem_eq e.symm ha))]; exact e.old a o ho t
end
section
variable {X : Cx} {T : List (Addr × Str)} {E : XK} {o ia ib e : Expr} {pos p1 p2 : Pos} {ma mb me : EnvD → Res D} {ml : EnvD → Res (List D)}
/-- [[..]] -/
theorem sl_l1 (h : PE X e (tF (dc X T E) ml)) (hs : starEach [e] X.env = (false, eval e X.env) :: starEach [] X.env := by rfl) : PE X (.List [e] pos) (tSl (dc X T E) (mL1T ml)) := pe_imp (pe_lst (pa_cons h pa_nil hs)) fun σ H Q ⟨M, ρ, st, q⟩ => by
  refine ⟨M, ρ, st, ?_⟩
  unfold mL1T at q
  cases e1 : ml ρ with
  | exc c => rw [e1] at q; exact q
  | stk => rw [e1] at q; exact q
  | ok ds =>
    rw [e1] at q
    intro p vs H' e hp z r n
    refine ⟨by show 1 ≤ sizeLine; rw [sizeLine_eq]; decide, fun p' n' => ?_⟩
    have pp : p ≠ p' := fun w => by rw [w, n'] at hp; cases hp
    refine q (.ref p') [p', p] _ (e.trans (.new e.tab n')) ⟨?_, by simp [pp.symm]⟩ fun b o hb t w => ?_
    · simp only [TrAt, TrsAt, leaves]
      refine ⟨p', [.ref p], [p], rfl, upd_same, by show 1 ≤ sizeLine; rw [sizeLine_eq]; decide, ⟨.ref p, [], [p], [], rfl, ⟨p, vs, [], rfl, by rw [upd_ne pp]; exact hp, z, leaves_at (r.ext fun b o hb t => ?_), rfl⟩, ⟨rfl, rfl⟩, rfl⟩, rfl⟩
      obtain ⟨b1, b2⟩ := hide_some hb
      have bp : b ≠ p' := ne_of_none b1 n'
      have b2' : ¬ b = p ∧ b ∉ M := by simpa using b2
      rw [hide_out (by simp [bp, b2'.1, b2'.2]), upd_ne bp]; exact b1
    · rcases List.mem_cons.mp w with rfl | w
      · rw [e.old b o hb t] at n'; cases n'
      · exact n b o hb t (List.mem_singleton.mp w)
def sAppT (vs : List Nat) (i : Nat) (ml : EnvD → Res (List D)) : EnvS → Out := fun ρ => match ρ[i]? with
  | some (.tre (.lst _)) => (match ml (vis (freeze vs ρ)) with
    | .ok ds => (match (if ds.all isFlat = true then ρ else freeze vs ρ)[i]? with
      | some (.tre (.lst ts)) => if ts.length < LIM then .next ((if ds.all isFlat = true then ρ else freeze vs ρ).set i (.tre (.lst (ts ++ [leaves ds])))) else .stk
      | _ => .stk)
    | .exc c => .exc c
    | .stk => .stk)
  | _ => .stk
theorem q_appT (vs : List Nat) {i : Nat} {o : Expr} {apos cpos : Pos} (ho : PE X o (tVar i)) (he : PE X e (tF (dc X T E) ml)) (hs : swapsWith (.Call (.Attribute o "append" apos) [e] [] cpos) none pos.line X.env = pure false := by rfl) (hbase : attributeBase o "append" X.env (eval o X.env) = eval o X.env := by rfl)
    (hfew : ((backTo cpos (starEach [e] X.env)).all (fun x => !x.1) && (backToKw cpos (keywordEach [] X.env)).all (fun x => x.1.isSome) && decide ([e].length + ([] : List Keyword).length + (if ([] : List Keyword).isEmpty then 0 else 1) < 30)) = true := by rfl)
    (hline : (apos.endLine == cpos.line) = true := by rfl) (hse : starEach [e] X.env = (false, eval e X.env) :: starEach [] X.env := by rfl) (hplain : (backTo cpos (starEach [] X.env)).any (·.1) = false := by rfl) :
    PS X (.Expr (.Call (.Attribute o "append" apos) [e] [] cpos) pos) (tS (dc X T E) (sAppT vs i ml)) :=
  ps_imp (ps_expr (pe_bm PySem.F.plainAttrs_list PySem.F.slot_list_append PySem.F.type_list_append mt_append ho (pa_cons he pa_nil hse) hbase hfew hline hse hplain) hs) fun D σ H ⟨G, M, O, ρ, s, h⟩ => by
    unfold sAppT at h
    cases e0 : ρ[i]? with
    | none => rw [e0] at h; exact h.elim
    | some sl =>
      rw [e0] at h
      cases sl with
      | no => exact h.elim
      | val _ => exact h.elim
      | own _ => exact h.elim
      | tre t0 =>
      cases t0 with
      | leaf _ => exact h.elim
      | dK _ _ => exact h.elim
      | dT _ _ => exact h.elim
      | ins _ _ _ => exact h.elim
      | lst ts0 =>
        obtain ⟨v, fp, g1, g2, _⟩ := s.tre_put e0
        simp only [TrAt] at g2
        obtain ⟨p, vs0, f, rfl, hp, _⟩ := g2
        refine ⟨.ref p, g1, .inl ⟨rfl, _, .of hp⟩, ?_⟩
        obtain ⟨O1, s1, u1⟩ := s.freeze vs
        refine ⟨O1, _, s1.toE, ?_⟩
        cases q : ml (vis (freeze vs ρ)) with
        | exc c => simp only [q] at h; exact aftS_exc s h
        | stk => simp only [q] at h; exact h
        | ok ds =>
          simp only [q] at h
          intro qa ws H' ex hq z r n
          have go : ∀ {O2 : List Addr} {ρ2 : EnvS}, StS (dc X T E) G M O2 σ ρ2 H → RDs X.K (hide (qa :: O2) H') ws ds → aftS (dc X T E) G M (match ρ2[i]? with
              | some (.tre (.lst ts)) => if ts.length < LIM then .next (ρ2.set i (.tre (.lst (ts ++ [leaves ds])))) else .stk
              | _ => .stk) D → tNil σ H' (fun xs H2 => rAppend (.ref p) (.ref qa :: xs) H2 fun _ H3 => D.nx σ H3) := fun {O2 ρ2} s2 r2 h' => by
            split at h'
            · rename_i ts e2
              have h'' : aftS (dc X T E) G M (if ts.length < LIM then .next (ρ2.set i (.tre (.lst (ts ++ [leaves ds])))) else .stk) D := h'
              by_cases hl : ts.length < LIM
              · rw [if_pos hl] at h''
                obtain ⟨p', vs', b1, b2, b3, b4⟩ := s2.appT e2 ex hq z r2 n hl
                rw [g1] at b1; cases b1
                exact ⟨p, vs', .ref qa, rfl, rfl, b2, b3, h'' _ σ _ b4⟩
              · rw [if_neg hl] at h''; exact h''.elim
            · exact h'.elim
          by_cases hf : ds.all isFlat = true
          · simp only [if_pos hf] at h
            exact go s (flats_any r hf) h
          · simp only [if_neg hf] at h
            exact go s1 r h
def sPut2 (vs : List Nat) (i : Nat) (ma mb me : EnvD → Res D) : EnvS → Out := fun ρ => match ρ[i]? with
  | some (.tre (.lst _)) => (match (me (vis (freeze vs ρ))).bind fun d => (ma (vis (freeze vs ρ))).bind fun k => (mb (vis (freeze vs ρ))).bind fun k2 => .ok (d, k, k2) with
    | .ok (d, k, k2) => if isFlat d = true then putS2 i k k2 d ρ else .stk
    | .exc _ => .stk
    | .stk => .stk)
  | _ => .stk
theorem q_put2 (vs : List Nat) {i : Nat} (ho : PE X o (tVar i)) (ha : PE X ia (tD (dc X T E) ma)) (hb : PE X ib (tD (dc X T E) mb)) (he : PE X e (tD (dc X T E) me)) (hp : PlainIx ia := by intro _ _; rfl)
    (hs : swapsWithSole [.Subscript (.Subscript o ia p1) ib p2] e pos.line X.env = pure false := by rfl) (hw : swappedStores [.Subscript (.Subscript o ia p1) ib p2] e X.env = pure none := by rfl) (h1 : (assignEach [.Subscript (.Subscript o ia p1) ib p2] X.env).map (·.2) = [assign (.Subscript (.Subscript o ia p1) ib p2) X.env] := by rfl)
    (hst : ∀ v, assign (.Subscript (.Subscript o ia p1) ib p2) X.env v = (do
      let ov ← holding [v] (eval (.Subscript o ia p1) X.env)
      let iv ← holding [v, ov] (eval ib X.env)
      standAt p2
      holding [v, ov, iv] (setItem ov iv v)
      release [v, ov, iv] []) := by intro _; rfl) :
    PS X (.Assign [.Subscript (.Subscript o ia p1) ib p2] e pos) (tS (dc X T E) (sPut2 vs i ma mb me)) := ps_imp (ps_asg he (pg_sub (pe_ix ix_list ho ha hp) hb set_list hst) hs hw h1) fun D σ H ⟨G, M, O, ρ, s, h⟩ => by
  obtain ⟨O1, s1, u1⟩ := s.freeze vs
  refine ⟨O1, _, s1.toE, ?_⟩
  unfold sPut2 at h
  split at h
  · rename_i ts0 e0
    cases q : me (vis (freeze vs ρ)) with
    | exc c => simp only [q] at h; exact h.elim
    | stk => simp only [q] at h; exact h.elim
    | ok d =>
      simp only [q, Res.bind_ok] at h
      intro v H1 x1 r1
      obtain ⟨v0, fp0, hv0, _⟩ := s.tre_put e0
      refine ⟨v0, hv0, O1, _, (s1.ext x1).toE, ?_⟩
      cases q2 : ma (vis (freeze vs ρ)) with
      | exc c => simp only [q2] at h; exact h.elim
      | stk => simp only [q2] at h; exact h.elim
      | ok k =>
        simp only [q2, Res.bind_ok] at h
        intro u H2 x2 r2
        cases q3 : mb (vis (freeze vs ρ)) with
        | exc c => simp only [q3] at h; exact h.elim
        | stk => simp only [q3] at h; exact h.elim
        | ok k2 =>
          simp only [q3, Res.bind_ok] at h
          have h' : aftS (dc X T E) G M (if isFlat d = true then putS2 i k k2 d ρ else .stk) D := h
          by_cases hf : isFlat d = true
          · rw [if_pos hf] at h'
            unfold putS2 at h'
            split at h'
            · rename_i ts a b e1
              rw [e0] at e1; cases e1
              split at h'
              · rename_i j us g1
                split at h'
                · rename_i j2 g2
                  have s2 := (s.ext x1).ext x2
                  obtain ⟨p, ws, qq, zs, b1, b2, b3, b4, b5, _⟩ := s2.put2 e0 g1 g2 (flat_any r1 hf)
                  rw [hv0] at b1; cases b1
                  simp only [RD] at r2
                  refine ⟨p, ws, a, .ref qq, rfl, r2, .inl (.inl b2), b3, O1, _, ((s1.ext x1).ext x2).toE, ?_⟩
                  rw [q3]
                  intro w H3 x3 r3
                  simp only [RD] at r3
                  have s3 := s2.ext x3
                  obtain ⟨p', ws', qq', zs', c1, c2, c3, c4, c5, c6⟩ := s3.put2 e0 g1 g2 (flat_any r1 hf)
                  rw [hv0] at c1; cases c1
                  rw [x3.old p _ b2 (fun ps z => by cases z)] at c2; cases c2
                  rw [b3] at c3; cases c3
                  exact ⟨qq, zs', b, j2, rfl, r3, c4, c5, h' O σ _ c6⟩
                · exact h'.elim
              · exact h'.elim
            · exact h'.elim
          · rw [if_neg hf] at h'; exact h'.elim
  · exact h.elim
end
end DL
namespace DL
open PySem PySem.Spec PyProof.Rows L2 LamX PySem.W
/-! ## a list that was just made is sorted -/
section
variable {β : Type} {prog : Program} {w : World} {A : Around} {E : Value → Shared → Prop} {s : Shared} {R : Value → β → Prop} {enc : β → PyData} {vs : List Value} {bs : List β}
theorem sort_made {h0 : Heap} {Q : Value → Shared → Prop} (hs : s.heap = h0.push (seqObj "list" vs.toArray 0)) (e : EachIs R vs bs) (er : EachIs (fun v b => ∃ as, Reads h0 v (enc b) as) vs bs) (hal : AllAlike (bs.map enc)) (hk : Sortable (bs.map enc)) (hL : bs.length ≤ sizeLine)
    (hu : ∀ b, b ∈ bs → A.units + 1 + (enc b).depth < cLine) (h : ∀ out, out.length = bs.length → EachIs R out (bs.mergeSort (dataLe false enc)) → Q .none { s with heap := sortedHeap s.heap h0.objs.size vs (List.toArray out) }) :
    wpAny (model prog w) A (call (.builtin "list.sort") [.ref h0.objs.size]) Q E s := by
  have ho : s.heap.get? h0.objs.size = some (seqObj "list" vs.toArray 0) := by rw [hs]; exact Heap.get?_push_size _ rfl
  have er' : EachIs (fun v b => ∃ as, Reads (sortingHeap s.heap h0.objs.size vs) v (enc b) as) vs bs := er.mono fun _ _ ⟨as, r⟩ => ⟨as, PyProof.Rows.Reads.keeps (fun b o q => sortingHeap_old (Nat.ne_of_lt (Heap.lt_size q)) (by rw [hs]; exact Heap.get?_push_of_some _ q)) r⟩
  refine wpAny_call_entry slot_list_sort ⟨_, ho, rfl⟩ entry_list_sort (list_sort_vals (κ := dataKind (sortingHeap s.heap h0.objs.size vs) (bs.map enc)) ho (SortsAt.data (s := { s with heap := sortingHeap s.heap h0.objs.size vs }) (each_map (R := fun v d => ∃ as, Reads (sortingHeap s.heap h0.objs.size vs) v d as) enc er') hal hk (bound_map hu)) (by rw [e.length]; exact hL) ⟨.none, rfl, ?_⟩) (args_list_sort _)
  exact h _ (by rw [sortVals_length false rfl]; exact e.length) (sortVals_data false e er' hal)
end
/-! ## sorted(d) -/
theorem keyD_rd {K : PySem.W.Frag} {H : Hp} {k : Key} (h : KeyOk k) : RD K H (kV k) (keyD k) := by
  cases k with
  | inl i => simp only [kV, keyD, RD]
  | inr s => simp only [kV, keyD, RD]; exact ⟨by simp, h⟩
theorem keysD_rd {K : PySem.W.Frag} {H : Hp} : ∀ {k : List Key}, (∀ x ∈ k, KeyOk x) → RDs K H (k.map kV) (k.map keyD)
  | [], _ => .nil
  | x :: k, h => .cons (keyD_rd (h x List.mem_cons_self)) (keysD_rd fun y hy => h y (List.mem_cons_of_mem _ hy))
/-- sorted of what iterates to vs -/
theorem sorted_by {X : Cx} {pins : List (Addr × Obj)} {σ : L2.St} {H Hv : Hp} {s : Shared} {a : Addr} {ks : List D} {Q : VK} (I : Inv X pins σ H s) (hu : X.A.units + 65 < cLine) (eV : ExtN Hv H) (ok : sortOkB ks = true) (hz : ks.length ≤ sizeLine)
    (col : ∀ R : List Value → Shared → Prop, (∀ (h' : Heap) (tk : Nat) (acc : List Value), (∀ b o, s.heap.get? b = some o → h'.get? b = some o) → EachIs (Stands X.K Hv) acc ks → R acc { s with heap := h', toks := tk }) → wpAny (model X.prog X.w) X.A.in1 (collect (.ref a)) R X.xe s)
    (q : ∀ ys p, RDs X.K Hv ys (ks.mergeSort leQ) → H p = none → Q (.ref p) (upd H p (.lst ys))) :
    wpAny (model X.prog X.w) X.A (call (.builtin "sorted") [.ref a]) (EP X pins σ Q) X.xe s := by
  unfold sortOkB at ok
  simp only [Bool.and_eq_true, decide_eq_true_eq] at ok
  obtain ⟨o1, o2, o3⟩ := ok
  refine Calls.call_function_entry PyProof.Rows.kind_sorted PyProof.Rows.plain_sorted PyProof.Rows.entry_sorted (PyProof.Rows.args_sorted1 _) ?_
  unfold Builtin.«sorted»
  refine wpAny_bind (m := checkCount "sorted" 1 1 _) (wpAny_pure ?_)
  refine wpAny_bind (col _ fun h' tk acc hk t => ?_)
  have I1 : Inv X pins σ H { s with heap := h', toks := tk } := I.kept hk
  have hal : acc.length = ks.length := t.length
  refine wpAny_bind (wpAny_newList ?_ (by rw [hal]; exact hz))
  show wpAny _ _ _ _ _ { s with heap := h'.push (seqObj "list" acc.toArray 0), toks := tk }
  refine wpAny_bind (wpAny_holding (sort_made (s := { s with heap := h'.push (seqObj "list" acc.toArray 0), toks := tk }) (h0 := h') (R := Stands X.K Hv) (enc := D.toPy) rfl t (each_reads I1 eV o3 t) (all_alike o1) (sortable o2) hz (fun b hb => ?_) fun out h1 h2 => ?_))
  · have k1 := toPy_depth b
    have k2 := rk_mem o3 b hb
    show X.A.units + 1 + 1 + b.toPy.depth < cLine
    omega
  · rw [leQ_eq] at h2
    obtain ⟨ys, y1, y2⟩ := each_back h2
    have hoL : (h'.push (seqObj "list" acc.toArray 0)).get? h'.objs.size = some (seqObj "list" acc.toArray 0) := Heap.get?_push_size _ rfl
    obtain ⟨e', he'⟩ := PyProof.Rows.sortedHeap_at (vs := acc) (out := List.toArray out) hoL
    have yl : ys.length ≤ sizeLine := by
      rw [y2.len, List.length_mergeSort]
      exact hz
    refine wpAny_pure ⟨_, rfl, .ref h'.objs.size, upd H h'.objs.size (.lst ys), I1.laid (t' := tk) (fun b u e => ?_) (Nat.le_refl _)
      (show ObjOk X.prog X.w (upd H h'.objs.size (.lst ys)) _ h'.objs.size (.lst ys) from ⟨yl, out, e', y1, he'⟩), rfl, q ys _ y2 (I1.hok.fresh (Nat.le_refl _))⟩
    have hb : b < h'.objs.size := Heap.lt_size e
    rw [PyProof.Rows.sortedHeap_old (Nat.ne_of_lt hb) (by rw [size_push']; exact Nat.lt_succ_of_lt hb)]
    exact Heap.get?_push_of_some _ e
def rSortDct (K : PySem.W.Frag) : List V → Hp → VK → Prop := fun vs H Q => ∃ (a : Addr) (ks : List D) (xs : List V) (M : List Addr), vs = [V.ref a] ∧ HidOk M H ∧ DctAt H a ks xs ∧ sortOkB ks = true ∧ ks.length ≤ sizeLine ∧
  ∀ ys p, RDs K (hide M H) ys (ks.mergeSort leQ) → H p = none → Q (.ref p) (upd H p (.lst ys))
theorem each_get {R : Value → D → Prop} : ∀ {us : List Value} {ks : List D}, us.length = ks.length → (∀ (i : Nat) (v : Value) (k : D), us[i]? = some v → ks[i]? = some k → R v k) → EachIs R us ks
  | [], [], _, _ => .nil
  | [], _ :: _, h, _ => by simp at h
  | _ :: _, [], h, _ => by simp at h
  | u :: us, k :: ks, h, g => .cons (g 0 u k rfl rfl) (each_get (by simpa using h) fun i v k' h1 h2 => g (i + 1) v k' (by simpa using h1) (by simpa using h2))
theorem cr_sortDct {X : Cx} (hc : X.calm = true) (hu : X.A.units + 65 < cLine) : CallR X (.builtin "sorted") (rSortDct X.K) := by
  intro pins s σ H vs us Q I r h
  obtain ⟨a, ks, xs, M, rfl, hid, hd, ok, hz, q⟩ := h
  obtain rfl := Vals.ref1 r
  rcases hd with ⟨kk, h1, rfl, h3, h4, h5⟩ | ⟨kk, h1, rfl, h3, h4, h5⟩
  · obtain ⟨z, lo, ws, rel, dd⟩ := dk_rd I.hok (.inl h1)
    obtain ⟨es, ep, raw, sz, hes⟩ := dd.raw
    have hkeys : ws.map (·.1) = kk := by rw [← rel.keys, List.map_fst_zip (by omega)]
    have hl : ws.length = kk.length := by rw [← hkeys, List.length_map]
    refine sorted_by I hu (hide_le M H) ok hz (fun R hR => kdu_collect (A := X.A.in1) (KdlSrc.rawDict (es := es) (ep := ep) lo) (I.ok.hd hc) raw (by rw [sz, hl]; simpa using hz) fun h' tk acc hk hacc => hR h' tk acc.toList hk (each_get (by rw [Array.length_toList, hacc.1, sz, hl, List.length_map]) fun i v k e1 e2 => ?_)) q
    rw [Array.getElem?_toList] at e1
    obtain ⟨hi, rfl⟩ := hacc.2 i v e1
    rw [List.getElem?_map] at e2
    obtain ⟨k', e3, rfl⟩ := Option.map_eq_some_iff.mp e2
    have e4 : (ws.map (·.1))[i]? = some k' := by rw [hkeys]; exact e3
    rw [List.getElem?_map] at e4
    obtain ⟨y, e5, rfl⟩ := Option.map_eq_some_iff.mp e4
    have key := (hes i hi y.1 y.2 e5).1
    refine ⟨kV y.1, ?_, keyD_rd (h5 _ (List.mem_of_getElem? e3))⟩
    cases hy : y.1 with
    | inl n =>
      rw [hy] at key
      obtain ⟨t, ev⟩ := Value.isInt_shape (k := n) key
      exact ⟨t, ev⟩
    | inr x =>
      rw [hy] at key
      obtain ⟨t, ev⟩ := Value.isStrOf_shape (x := x) key
      exact ⟨t, ev⟩
  · obtain ⟨z, lo, ws, rel, dd⟩ := dt_rd I.hok (.inl h1)
    obtain ⟨es, ep, raw, sz, hes⟩ := dd.raw
    have hl : ws.length = kk.length := by
      have := Paired.length rel
      rw [List.length_zip] at this
      omega
    refine sorted_by I hu (hide_le M H) ok hz (fun R hR => kdu_collect (A := X.A.in1) (KdlSrc.rawDict (es := es) (ep := ep) lo) (I.ok.hd hc) raw (by rw [sz, hl]; simpa using hz) fun h' tk acc hk hacc => hR h' tk acc.toList hk (each_get (by rw [Array.length_toList, hacc.1, sz, hl, List.length_map]) fun i v k e1 e2 => ?_)) q
    rw [Array.getElem?_toList] at e1
    obtain ⟨hi, rfl⟩ := hacc.2 i v e1
    rw [List.getElem?_map] at e2
    obtain ⟨k', e3, rfl⟩ := Option.map_eq_some_iff.mp e2
    obtain ⟨y, e5, e6, _, _⟩ := hes i hi
    have hil : i < kk.length := (List.getElem?_eq_some_iff.mp e3).1
    have ez : (kk.zip xs)[i]? = some (k', xs[i]'(by omega)) := by
      rw [List.getElem?_zip_eq_some]
      exact ⟨e3, List.getElem?_eq_getElem (by omega)⟩
    obtain ⟨yy, z1, z2, z3, z4⟩ := DX.pget rel e5
    rw [ez] at z1; cases z1
    refine ⟨.ref y.2.1, by rw [e6]; rfl, ?_⟩
    simp only at z2 z3
    unfold tupD
    simp only [RD]
    have hm : y.2.1 ∉ M := fun hm => hid.nt _ hm _ z3
    have kl : (k'.map kV).length ≤ sizeLine := (I.hok _ _ z3).1
    exact ⟨y.2.1, k'.map kV, rfl, by unfold TpAt; rw [hide_out hm]; exact z3, kl, keysD_rd (h5 _ (List.mem_of_getElem? e3))⟩
end DL
namespace DL
open PySem PySem.Spec PyProof.Rows L2 LamX PySem.W
/-! ## sorted(set(xs)) -/
abbrev toksD (d : D) : List (Int ⊕ List Nat) := keyToks d.toPy
theorem leQ_toks (a b : D) : leQ a b = !PyProof.Rows.lexLt itemOrd (toksD b) (toksD a) := rfl
theorem leQ_trans (a b c : D) (h1 : leQ a b = true) (h2 : leQ b c = true) : leQ a c = true := by
  rw [leQ_toks, Bool.not_eq_true'] at *
  cases h : PyProof.Rows.lexLt itemOrd (toksD c) (toksD a) with
  | false => rfl
  | true =>
    rcases PyProof.Rows.lex_negTrans (O := itemOrd) _ (toksD b) _ h with e | e
    · rw [h2] at e; cases e
    · rw [h1] at e; cases e
theorem leQ_total (a b : D) : (leQ a b || leQ b a) = true := by
  rw [leQ_toks, leQ_toks]
  cases h1 : PyProof.Rows.lexLt itemOrd (toksD b) (toksD a) with
  | false => rfl
  | true =>
    cases h2 : PyProof.Rows.lexLt itemOrd (toksD a) (toksD b) with
    | false => rfl
    | true =>
      have := PyProof.Rows.lex_trans (O := itemOrd) _ _ _ h1 h2
      rw [PyProof.Rows.lex_irrefl] at this
      cases this
theorem leQ_anti {a b : D} (h1 : leQ a b = true) (h2 : leQ b a = true) : toksD a = toksD b := by
  rw [leQ_toks, Bool.not_eq_true'] at *
  exact PyProof.Rows.lex_total (O := itemOrd) _ _ h2 h1
theorem sort_uniq {ks ks' : List D} (p : ks'.Perm ks) (inj : ∀ a ∈ ks, ∀ b ∈ ks, toksD a = toksD b → a = b) : ks'.mergeSort leQ = ks.mergeSort leQ := by
  refine List.Perm.eq_of_pairwise (le := fun a b => leQ a b = true) (fun a b ha hb h1 h2 => ?_) (List.pairwise_mergeSort leQ_trans leQ_total ks') (List.pairwise_mergeSort leQ_trans leQ_total ks) ((List.mergeSort_perm ks' leQ).trans (p.trans (List.mergeSort_perm ks leQ).symm))
  exact inj a (p.mem_iff.mp ((List.mergeSort_perm ks' leQ).mem_iff.mp ha)) b ((List.mergeSort_perm ks leQ).mem_iff.mp hb) (leQ_anti h1 h2)
theorem sortOk_perm {ks ks' : List D} (p : ks'.Perm ks) (h : sortOkB ks = true) : sortOkB ks' = true := by
  unfold sortOkB at h ⊢
  simp only [Bool.and_eq_true, Bool.or_eq_true, decide_eq_true_eq] at h ⊢
  obtain ⟨h1, h2, h3⟩ := h
  have al : ∀ {q : D → Bool}, ks.all q = true → ks'.all q = true := fun {q} h => List.all_eq_true.mpr fun x hx => List.all_eq_true.mp h x (p.mem_iff.mp hx)
  refine ⟨?_, h2.imp al al, ?_⟩
  · unfold alikeD at h1 ⊢
    exact List.all_eq_true.mpr fun x hx => List.all_eq_true.mpr fun y hy => List.all_eq_true.mp (List.all_eq_true.mp h1 x (p.mem_iff.mp hx)) y (p.mem_iff.mp hy)
  · have : ∀ (l : List D), (∀ x ∈ l, x.rk ≤ 60) → rks l ≤ 60 := fun l => by
      induction l with
      | nil => intro _; simp [rks]
      | cons x l ih =>
        intro h
        have := ih fun y hy => h y (List.mem_cons_of_mem _ hy)
        have := h x List.mem_cons_self
        simp only [rks]; omega
    exact this ks' fun x hx => rk_mem h3 x (p.mem_iff.mp hx)
theorem toks_key (k : Key) : toksD (keyD k) = [match k with | .inl i => .inl i | .inr s => .inr s.cps.toList] := by
  cases k with
  | inl i => simp [toksD, keyD, D.toPy, keyToks]
  | inr s => simp [toksD, keyD, D.toPy, keyToks]
theorem toks_key_inj {a b : Key} (h : toksD (keyD a) = toksD (keyD b)) : a = b := by
  rw [toks_key, toks_key] at h
  cases a with
  | inl i =>
    cases b with
    | inl j => simpa using h
    | inr t => simp at h
  | inr s =>
    cases b with
    | inl j => simp at h
    | inr t =>
      simp at h
      cases s; cases t
      simp at h
      rw [h]
theorem toks_keys_inj : ∀ {a b : List Key}, keyToksAll (toPys (a.map keyD)) = keyToksAll (toPys (b.map keyD)) → a = b
  | [], [], _ => rfl
  | [], y :: b, h => by simp [toPys, keyToksAll] at h
  | x :: a, [], h => by simp [toPys, keyToksAll] at h
  | x :: a, y :: b, h => by
    simp only [List.map_cons, toPys, keyToksAll, List.cons.injEq, true_and] at h
    have e1 := toks_key x
    have e2 := toks_key y
    unfold toksD at e1 e2
    rw [e1, e2] at h
    simp only [List.singleton_append, List.cons.injEq] at h
    have : x = y := toks_key_inj (by rw [toks_key, toks_key, h.1])
    rw [this, toks_keys_inj h.2]
theorem toks_tup_inj {a b : List Key} (h : toksD (tupD a) = toksD (tupD b)) : a = b := by
  unfold toksD tupD at h
  simp only [D.toPy, keyToks] at h
  exact toks_keys_inj h
theorem tupD_inj {a b : List Key} (h : tupD a = tupD b) : a = b := toks_tup_inj (by rw [h])
/-- sorted of what iterates, in some order, to ks -/
theorem sorted_byP {X : Cx} {pins : List (Addr × Obj)} {σ : L2.St} {H Hv : Hp} {s : Shared} {a : Addr} {ks : List D} {Q : VK} (I : Inv X pins σ H s) (hu : X.A.units + 65 < cLine) (eV : ExtN Hv H) (ok : sortOkB ks = true) (hz : ks.length ≤ sizeLine) (inj : ∀ a ∈ ks, ∀ b ∈ ks, toksD a = toksD b → a = b)
    (col : ∀ R : List Value → Shared → Prop, (∀ (s' : Shared) (acc : List Value) (ks' : List D), Inv X pins σ H s' → ks'.Perm ks → EachIs (Stands X.K Hv) acc ks' → R acc s') → wpAny (model X.prog X.w) X.A.in1 (collect (.ref a)) R X.xe s)
    (q : ∀ ys p, RDs X.K Hv ys (ks.mergeSort leQ) → H p = none → Q (.ref p) (upd H p (.lst ys))) :
    wpAny (model X.prog X.w) X.A (call (.builtin "sorted") [.ref a]) (EP X pins σ Q) X.xe s := by
  refine Calls.call_function_entry PyProof.Rows.kind_sorted PyProof.Rows.plain_sorted PyProof.Rows.entry_sorted (PyProof.Rows.args_sorted1 _) ?_
  unfold Builtin.«sorted»
  refine wpAny_bind (m := checkCount "sorted" 1 1 _) (wpAny_pure ?_)
  refine wpAny_bind (col _ fun s1 acc ks' I1 pm t => ?_)
  have ok' := sortOk_perm pm ok
  unfold sortOkB at ok'
  simp only [Bool.and_eq_true, decide_eq_true_eq] at ok'
  obtain ⟨o1, o2, o3⟩ := ok'
  have hz' : ks'.length ≤ sizeLine := by rw [pm.length_eq]; exact hz
  have hal : acc.length = ks'.length := t.length
  refine wpAny_bind (wpAny_newList ?_ (by rw [hal]; exact hz'))
  show wpAny _ _ _ _ _ { s1 with heap := s1.heap.push (seqObj "list" acc.toArray 0) }
  refine wpAny_bind (wpAny_holding (sort_made (s := { s1 with heap := s1.heap.push (seqObj "list" acc.toArray 0) }) (h0 := s1.heap) (R := Stands X.K Hv) (enc := D.toPy) rfl t (each_reads I1 eV o3 t) (all_alike o1) (sortable o2) hz' (fun b hb => ?_) fun out h1 h2 => ?_))
  · have k1 := toPy_depth b
    have k2 := rk_mem o3 b hb
    show X.A.units + 1 + 1 + b.toPy.depth < cLine
    omega
  · rw [leQ_eq, sort_uniq pm inj] at h2
    obtain ⟨ys, y1, y2⟩ := each_back h2
    have hoL : (s1.heap.push (seqObj "list" acc.toArray 0)).get? s1.heap.objs.size = some (seqObj "list" acc.toArray 0) := Heap.get?_push_size _ rfl
    obtain ⟨e', he'⟩ := PyProof.Rows.sortedHeap_at (vs := acc) (out := List.toArray out) hoL
    have yl : ys.length ≤ sizeLine := by
      rw [y2.len, List.length_mergeSort]
      exact hz
    refine wpAny_pure ⟨_, rfl, .ref s1.heap.objs.size, upd H s1.heap.objs.size (.lst ys), I1.laid (t' := s1.toks) (fun b u e => ?_) (Nat.le_refl _)
      (show ObjOk X.prog X.w (upd H s1.heap.objs.size (.lst ys)) _ s1.heap.objs.size (.lst ys) from ⟨yl, out, e', y1, he'⟩), rfl, q ys _ y2 (I1.hok.fresh (Nat.le_refl _))⟩
    have hb : b < s1.heap.objs.size := Heap.lt_size e
    rw [PyProof.Rows.sortedHeap_old (Nat.ne_of_lt hb) (by rw [size_push']; exact Nat.lt_succ_of_lt hb)]
    exact Heap.get?_push_of_some _ e
def rSortSetM (K : PySem.W.Frag) (P : Program) (w : World) : List V → Hp → VK → Prop := fun vs H Q => ∃ (a : Addr) (L : List Ent) (M : List Addr), vs = [V.ref a] ∧ H a = some (SetMO P w a L) ∧ (∀ p ∈ L, TpAt K (hide M H) p.1 (p.2.map kV) ∧ (p.2.map kV).length ≤ sizeLine ∧ ∀ x ∈ p.2, KeyOk x) ∧ sortOkB (L.map fun p => tupD p.2) = true ∧ L.length < 64 ∧
  ∀ ys p, RDs K (hide M H) ys ((L.map fun p => tupD p.2).mergeSort leQ) → H p = none → Q (.ref p) (upd H p (.lst ys))
theorem perm_map_back {α β : Type} (f : α → β) {m k : List β} (h : m.Perm k) : ∀ {l : List α}, l.map f = k → ∃ l' : List α, l'.Perm l ∧ m = l'.map f := by
  induction h with
  | nil =>
    intro l hk
    cases l with
    | nil => exact ⟨[], .refl _, rfl⟩
    | cons _ _ => simp at hk
  | cons x h ih =>
    intro l hk
    cases l with
    | nil => simp at hk
    | cons a l =>
      simp only [List.map_cons, List.cons.injEq] at hk
      obtain ⟨l', p, e⟩ := ih hk.2
      exact ⟨a :: l', p.cons a, by rw [e, List.map_cons, hk.1]⟩
  | swap x y t =>
    intro l hk
    match l, hk with
    | [], hk => simp at hk
    | [_], hk => simp at hk
    | a :: b :: l, hk =>
      simp only [List.map_cons, List.cons.injEq] at hk
      exact ⟨b :: a :: l, .swap a b l, by simp [hk.1, hk.2.1, hk.2.2]⟩
  | trans h1 h2 ih1 ih2 =>
    intro l hk
    obtain ⟨l1, p1, e1⟩ := ih2 hk
    obtain ⟨l2, p2, e2⟩ := ih1 e1.symm
    exact ⟨l2, p2.trans p1, e2⟩
theorem cr_sortSetM {X : Cx} (hc : X.calm = true) (hu : X.A.units + 65 < cLine) : CallR X (.builtin "sorted") (rSortSetM X.K X.prog X.w) := by
  intro pins s σ H vs us Q I r h
  obtain ⟨a, L, M, rfl, ha, hk, ok, few, q⟩ := h
  obtain rfl := Vals.ref1 r
  obtain ⟨es, ep, t, ⟨o, ho, hex, hd⟩, rows, Tb, led, room, few'⟩ := (I.hok a _ ha).1
  have sz := rows_size rows
  have hn63 : 64 ≤ sizeLine := by rw [sizeLine_eq]; decide
  refine sorted_byP I hu (hide_le M H) ok (by rw [List.length_map]; omega) (fun x hx y hy e => ?_) (fun R hR => collect_set (A := X.A.in1) (I.ok.hd hc) ⟨o, ho, hex.1, hd⟩ (fits_of Tb sz (by omega)) (by rw [sz]; unfold scanBound; omega) Tb.ris led fun s' out k hz g oe pm => ?_) q
  · obtain ⟨p, _, rfl⟩ := List.mem_map.mp hx
    obtain ⟨p', _, rfl⟩ := List.mem_map.mp hy
    rw [toks_tup_inj e]
  · rw [rows, List.map_map] at pm
    have e0 : (Prod.snd ∘ entRow X.prog X.w) = fun p : Ent => Value.ref p.1 := rfl
    rw [e0] at pm
    obtain ⟨L', pm', rfl⟩ := perm_map_back (fun p : Ent => Value.ref p.1) pm rfl
    refine hR s' _ (L'.map fun p => tupD p.2) (I.call' (ch := []) oe (.kept k) (I.hok.kept k) (by rw [g]; exact I.bare) (fun _ z => nomatch z)) (pm'.map _) (each_get (by simp) fun i v d h1 h2 => ?_)
    rw [List.getElem?_map] at h1 h2
    obtain ⟨p, e1, rfl⟩ := Option.map_eq_some_iff.mp h1
    rw [e1] at h2
    cases h2
    obtain ⟨b1, b2, b3⟩ := hk p (pm'.mem_iff.mp (List.mem_of_getElem? e1))
    refine ⟨.ref p.1, rfl, ?_⟩
    unfold tupD
    simp only [RD]
    exact ⟨p.1, _, rfl, b1, b2, keysD_rd b3⟩
def sortSetF : List D → Res D
  | [.lst ds] => (oR (tupsKs ds)).bind fun ks => if ks.length < 64 ∧ sortOkB ((nub ks).map tupD) = true then .ok (.lst (((nub ks).map tupD).mergeSort leQ)) else .stk
  | _ => .stk
theorem tupsKs_ok {K : PySem.W.Frag} {H : Hp} : ∀ {vs : List V} {ds : List D} {ks : List (List Key)} {es : List Ent}, RDs K H vs ds → tupsKs ds = some ks → vs = es.map (fun p => V.ref p.1) → es.map Prod.snd = ks → ∀ p ∈ es, (p.2.map kV).length ≤ sizeLine ∧ ∀ x ∈ p.2, KeyOk x
  | vs, [], ks, es, r, e, ev, ek => by
    cases e
    cases es with
    | nil => exact fun p h => nomatch h
    | cons _ _ => simp at ek
  | vs, d :: ds, ks, es, r, e, ev, ek => by
    simp only [RDs] at r
    obtain ⟨v, us, rfl, h1, h2⟩ := r
    simp only [tupsKs, Option.bind_eq_some_iff, Option.map_eq_some_iff] at e
    obtain ⟨k, e1, ks', e2, rfl⟩ := e
    cases es with
    | nil => simp at ek
    | cons p0 es =>
      simp only [List.map_cons, List.cons.injEq] at ev ek
      intro p hp
      rcases List.mem_cons.mp hp with rfl | hp
      · cases d with
        | tup xs =>
          simp only [RD] at h1
          obtain ⟨a, ws, _, _, b2, b3⟩ := h1
          have ew := kDs_rd b3 e1
          rw [ek.1]
          exact ⟨by rw [← ew]; exact b2, keysOk_rd b3 e1⟩
        | _ => cases e1
      · exact tupsKs_ok h2 e2 ev.2 ek.2 p hp
section
variable {X : Cx} {T : List (Addr × Str)} {E : XK} {e : Expr} {pos p p2 pos2 : Pos} {mr : EnvD → Res (List D)}
theorem d_sortSet (hgl : Gl X "sorted") (hml : X.mg "sorted" = none) (hgs : Gl X "set") (hms : X.mg "set" = none) (hc : X.calm = true) (hu : X.A.units + 65 < cLine) (ha : PA X [e] (tAD (dc X T E) mr))
    (he : starEach [e] X.env = (false, eval e X.env) :: starEach [] X.env := by rfl) (hpl : (backTo pos2 (starEach [] X.env)).any (·.1) = false := by rfl) (hs2 : starEach [.Call (.Name "set" p2) [e] [] pos2] X.env = (false, eval (.Call (.Name "set" p2) [e] [] pos2) X.env) :: starEach [] X.env := by rfl)
    (hpl2 : (backTo pos (starEach [] X.env)).any (·.1) = false := by rfl) :
    PE X (.Call (.Name "sorted" p) [.Call (.Name "set" p2) [e] [] pos2] [] pos) (tD (dc X T E) (mCall sortSetF mr)) := by
  refine pe_imp (pe_callB (cr_sortSetM (X := X) hc hu) hgl hml (by rfl) (pa_cons (pe_callTy (cr_setM hc (by omega)) hgs hms (by rfl) ha (he := he) (hpl := hpl)) pa_nil hs2) (he := hs2) (hpl := hpl2)) fun σ H Q ⟨M, ρ, st, q⟩ => ?_
  refine ⟨M, ρ, st, (aft.bind (Rel := RDs X.K) q).imp fun vs H1 ⟨ds, _, e1, r1, q1⟩ => ?_⟩
  unfold sortSetF at q1
  split at q1
  · rename_i ds
    obtain ⟨v, rfl, r2⟩ := rds1 r1
    simp only [RD] at r2
    obtain ⟨a, vs, rfl, hp, hz, hr⟩ := r2
    obtain ⟨ks, e2, q1⟩ := aft_oR q1
    obtain ⟨⟨hl, ok⟩, q1⟩ := aft_if q1
    obtain ⟨es, ev, ek, a3⟩ := tupsKs_rd hr e2
    have a4 := tupsKs_ok hr e2 ev ek
    subst ev ek
    refine ⟨a, es, rfl, .inl (.inl (vis_get hp)), fun p hp => vis_sqT (a3 p hp), by simpa using hl, fun b L hb nd sub all => ?_⟩
    have pm : (L.map Prod.snd).Perm (nub (es.map Prod.snd)) := (List.perm_ext_iff_of_nodup nd (nodup_nub _)).mpr fun k => by
      rw [mem_nub]
      constructor
      · intro h
        obtain ⟨p, hp, rfl⟩ := List.mem_map.mp h
        exact List.mem_map_of_mem (sub p hp)
      · intro h
        obtain ⟨p, hp, rfl⟩ := List.mem_map.mp h
        exact all p hp
    have pm2 : (L.map fun p => tupD p.2).Perm ((nub (es.map Prod.snd)).map tupD) := by
      have := pm.map tupD
      rwa [List.map_map] at this
    have hid := st.hid.ext e1.old
    have hb' : b ∉ M := hid.fresh hb
    have t1 : Tabs T (upd H1 b (SetMO X.prog X.w b L)) := (ExtT.new (C := dc X T E) e1.tab hb).tab
    have le : ExtN H1 (upd H1 b (SetMO X.prog X.w b L)) := .of (ext_new hb)
    have hLl : L.length < 64 := by
      have h1 := pm.length_eq
      rw [List.length_map] at h1
      have h2 := nub_le (es.map Prod.snd)
      rw [List.length_map] at h2 hl
      omega
    refine ⟨b, L, M, rfl, upd_same, fun p hp => ⟨ext_tpAt (hide_mono M le) (a3 p (sub p hp)), a4 p (sub p hp)⟩, sortOk_perm pm2 ok, hLl, fun ys c hy hcn => ?_⟩
    rw [sort_uniq pm2 (fun x hx y hy e => by
      obtain ⟨p, _, rfl⟩ := List.mem_map.mp hx
      obtain ⟨p', _, rfl⟩ := List.mem_map.mp hy
      rw [toks_tup_inj e])] at hy
    exact aft_lst (aft.ext q1 ⟨le, t1⟩) t1 (hid.ext le) hcn (by
      rw [hy.len, List.length_mergeSort, List.length_map]
      have h2 := nub_le (es.map Prod.snd)
      have h64 : 64 ≤ sizeLine := by rw [sizeLine_eq]; decide
      rw [List.length_map] at h2 hl
      omega) hy
  · exact q1.elim
end
end DL
namespace DL
open PySem PySem.Spec PyProof.Rows L2 LamX PySem.W
/-! ## sorted(d), on data -/
def sortCF : List D → Res D
  | [.dct ks _] => if sortOkB ks = true ∧ ks.length ≤ LIM then .ok (.lst (ks.mergeSort leQ)) else .stk
  | _ => .stk
section
variable {X : Cx} {T : List (Addr × Str)} {E : XK} {e : Expr} {ma mb : EnvD → Res D}
theorem a_sortC : R1D (dc X T E) (rSortDct X.K) sortCF := by
  intro M H vs ds Q tb hid r q
  unfold sortCF at q
  split at q
  · rename_i ks ws
    obtain ⟨v, rfl, r2⟩ := rds1 r
    simp only [RD] at r2
    obtain ⟨a, xs, rfl, hd, hr⟩ := r2
    obtain ⟨⟨ok, hz⟩, q⟩ := aft_if q
    refine ⟨a, ks, xs, M, rfl, hid, hd.ext (fun o h t => hide_le M H a o h t), ok, lim_le hz, fun ys p hy n => ?_⟩
    exact aft_lst q tb hid n (by rw [hy.len, List.length_mergeSort]; exact lim_le hz) hy
  · exact q.elim
/-! ## s.strip(signs) -/
def stripL (s cs : List Nat) : List Nat := (Txt.stripChars ⟨s.toArray⟩ ⟨cs.toArray⟩).cps.toList
def stripS (s : List Nat) : D → Res D
  | .str cs => if okSB (stripL s cs) = true then .ok (.str (stripL s cs)) else .stk
  | _ => .stk
theorem d_strip {o : Expr} {apos cpos : Pos} (ho : PE X o (tD (dc X T E) ma)) (ha : PE X e (tD (dc X T E) mb)) (hbase : attributeBase o "strip" X.env (eval o X.env) = eval o X.env := by rfl)
    (hfew : ((backTo cpos (starEach [e] X.env)).all (fun x => !x.1) && (backToKw cpos (keywordEach [] X.env)).all (fun x => x.1.isSome) && decide ([e].length + ([] : List Keyword).length + (if ([] : List Keyword).isEmpty then 0 else 1) < 30)) = true := by rfl)
    (hline : (apos.endLine == cpos.line) = true := by rfl) (hse : starEach [e] X.env = (false, eval e X.env) :: starEach [] X.env := by rfl) (hplain : (backTo cpos (starEach [] X.env)).any (·.1) = false := by rfl) :
    PE X (.Call (.Attribute o "strip" apos) [e] [] cpos) (tD (dc X T E) (mS1 stripS ma mb)) :=
  d_m1 PySem.F.slot_str_strip PySem.F.type_str_strip mt_stripChars (fun M H z y b Q tb hid oz rb h => by
    unfold stripS at h
    split at h
    · rename_i cs
      simp only [RD] at rb
      obtain ⟨ok, h⟩ := aft_if h
      refine ⟨_, _, rfl, by rw [rb.1], oz.1, ?_⟩
      have e1 : Txt.stripChars ⟨z.toArray⟩ ⟨cs.toArray⟩ = ⟨(stripL z cs).toArray⟩ := by
        unfold stripL
        simp
      rw [e1]
      exact h _ H (.refl tb) (by simp only [RD]; exact ⟨trivial, okS_of ok⟩)
    · exact h.elim) ho ha hbase hfew hline hse hplain
end
end DL
namespace DL
open PySem PySem.Spec PyProof.Rows L2 LamX
theorem u1 {n c : Nat} (h : n + 65 < c) : n + 1 < c := by omega
/-! ## try: one statement; except one class -/
theorem passAtN {X : Cx} {W : WX} (tk : L2N.Takes X W) (σ : L2.St) : PassesAt (L2N.CX X.prog X.w) X σ (WE W σ) := fun _ _ _ e s' I c => tk e s' (L2N.XE.of_call I (fun _ _ _ h => h) c)
/-- an expression that may let out an exception, told what the slots hold then -/
def tDX (X : Cx) (T : List (Addr × Str)) (W : WX) (m : EnvD → Res D) : TE := fun σ H Q => ∃ M ρ, StE (dc X T E00) M σ ρ H ∧ aft ⟨X.K, T, WE W σ⟩ M H (RD X.K) (m ρ) Q
def mCallX (f : List D → Res D) (mr : EnvD → Res (List D)) : EnvD → Res D := fun ρ => match mr ρ with
  | .ok ds => f ds
  | _ => .stk
def tSX (X : Cx) (T : List (Addr × Str)) (E : XK) (W : WX) (m : EnvS → Out) : TS := fun D σ H => ∃ G M O ρ, StS (dc X T E) G M O σ ρ H ∧ match m ρ with
  | .exc c => ∀ H', ExtT (dc X T E) H H' → W (.ref (He.ga X.K c)) none σ H'
  | r => aftS (dc X T E) G M r D
section
variable {X : Cx} {T : List (Addr × Str)} {E : XK} {W : WX} {e o : Expr} {es : List Expr} {pos p : Pos} {mr : EnvD → Res (List D)} {f : List D → Res D} {me : EnvD → Res D} {x : Str} {k n : Nat}
theorem d_callX (F : Fn X.prog X.w X.K X.mg X.base T x k n f) (hr : Room k X.A) (hg : Gl X x) (tk : L2N.Takes X W) (ha : PA X (e :: es) (tAD (dc X T E00) mr)) (hn : ∀ ρ ds, mr ρ = .ok ds → ds.length = n)
    (hdb : (x == ("__debug__" : Str)) = false := by decide) (he : starEach (e :: es) X.env = (false, eval e X.env) :: starEach es X.env := by rfl) (hpl : (backTo pos (starEach es X.env)).any (·.1) = false := by rfl) :
    PE X (.Call (.Name x p) (e :: es) [] pos) (tDX X T W (mCallX f mr)) := by
  obtain ⟨a, fd, ps, h1, h2, h3, h4, h5⟩ := F
  refine pe_imp (pe_callS (E := WE W) h5 hr hg h1 h2 h3 (fun σ => passAtN tk σ) ha (hdb := hdb) (he := he) (hpl := hpl)) fun σ H Q ⟨M, ρ, st, q⟩ => ?_
  unfold mCallX at q
  refine ⟨M, ρ, st, ?_⟩
  cases e0 : mr ρ with
  | exc c => rw [e0] at q; exact q.elim
  | stk => rw [e0] at q; exact q.elim
  | ok ds =>
    rw [e0] at q
    intro vs H1 e1 r1
    exact ⟨M, ds, hn ρ ds e0, e1.tab, st.hid.ext e1.old, r1, aft.ext (C := ⟨X.K, T, WE W σ⟩) q ⟨e1.old, e1.tab⟩⟩
/-- x = f(..) -/
theorem q_asgX {i : Nat} {pos' : Pos} (hN : X.N.Nodup) (hi : X.N[i]? = some x) (hx : Loc X.env.scope x) (he : PE X e (tDX X T W me)) (hs : swapsWith e (some (.Name x pos')) pos.line X.env = pure false := by rfl) (hf : X.fn x = true ∨ X.env.scope.names.lookup x = some .local := by first | exact .inl rfl | exact .inr rfl | assumption) :
    PS X (.Assign [.Name x pos'] e pos) (tSX X T E W (sAsg [] i me)) := ps_imp (ps_set hN hi hx he hs hf) fun D σ H ⟨G, M, O, ρ, s, h⟩ => by
  refine ⟨O, vis ρ, ⟨s.tab, s.hid, s.toE.len, s.toE.env⟩, ?_⟩
  unfold sAsg at h
  have f0 : freeze [] ρ = ρ := by simp only [freeze]
  rw [f0] at h
  cases q : me (vis ρ) with
  | ok d =>
    rw [q] at h
    intro v H' e r
    have h' : aftS (dc X T E) G M (.next ((if isFlat d = true then ρ else ρ).set i (.val d))) D := h
    rw [ite_self] at h'
    exact h' O _ H' ((s.ext ⟨e.old, e.tab⟩).setVal r)
  | exc c => rw [q] at h; exact fun H' e => h H' ⟨e.old, e.tab⟩
  | stk => rw [q] at h; exact h
/-- try: st; except c: suite -/
def sTry (c : String) (mb ms : EnvS → Out) : EnvS → Out := fun ρ => match mb ρ with
  | .exc c' => if c' = c then ms ρ else .exc c'
  | r => r
/-- .. where cs are the classes that are known -/
def sTryC (cs : List String) (c : String) (mb ms : EnvS → Out) : EnvS → Out := fun ρ => match mb ρ with
  | .exc c' => if c' ∈ cs then (if c' = c then ms ρ else .exc c') else .stk
  | r => r
theorem q_try1 {cs : List String} {c : String} {body suite : List Stmt} {b₀ : Stmt} {np pos' : Pos} {mb ms : EnvS → Out} (C : ClsX X.K cs) (hc : c ∈ cs) (hst : X.stack = X.env :: X.outer) (hfr : X.env.frame = some X.env.locals) (tk : L2N.Takes X fun cls d _ H => E cls d H) (hg : X.mg (Str.ofString c) = some (.ref (He.ga X.K (Str.ofString c)))) (hgl : Gl X (Str.ofString c))
    (hb : ∀ (W : WX) (pn : List (Addr × Obj)) (xe : Value → Shared → Prop), L2N.Takes (X.tr pn xe) W → PassesOwn (model X.prog X.w) X.A X.env xe → PSs (X.tr pn xe) body (tSX (X.tr pn xe) T E W mb))
    (hsu : ∀ (a : Addr) (oe : Obj) (pn : List (Addr × Obj)), (∃ vs, oe.data = .fields vs) → PSs (X.suite a ((a, oe) :: pn)) (b₀ :: suite) (tS (dc X T E) ms)) (hdb : (Str.ofString c == ("__debug__" : Str)) = false := by decide) :
    PS X (.Try body [.ExceptHandler (some (.Name (Str.ofString c) np)) none (b₀ :: suite) pos'] [] [] pos) (tS (dc X T E) (sTryC cs c mb ms)) :=
  ps_imp (L2N.ps_try_many (tb := fun W => tSX X T E W mb) (l := [(.ref (He.ga X.K (Str.ofString c)), fun _ _ _ => tS (dc X T E) ms)]) hst hfr tk (fun W pn xe t p => hb W pn xe t p) (.cons ⟨hgl, hdb, .inl hg⟩ (fun a oe cls d pn hz hf => hsu a oe pn hf) .nil)) fun D σ H ⟨G, M, O, ρ, s, h⟩ => by
    refine ⟨G, M, O, ρ, s, ?_⟩
    unfold sTryC at h
    cases q : mb ρ with
    | exc c' =>
      rw [q] at h
      have h' : aftS (dc X T E) G M (if c' ∈ cs then (if c' = c then ms ρ else .exc c') else .stk) D := h
      by_cases hm : c' ∈ cs
      · rw [if_pos hm] at h'
        intro H' e
        refine ⟨c' == c, C.exq c' hm c hc, fun hy a na => ?_, fun hno => ?_⟩
        · have ec : c' = c := by simpa using hy
          rw [if_pos ec] at h'
          exact ⟨G, M, O, ρ, s.ext e, h'⟩
        · have ec : ¬ c' = c := by simpa using hno
          rw [if_neg ec] at h'
          exact aftS_exc s h' H' e
      · rw [if_neg hm] at h'; exact h'.elim
    | next ρ' => rw [q] at h; exact h
    | ret d => rw [q] at h; exact h
    | brk ρ' => rw [q] at h; exact h
    | cont ρ' => rw [q] at h; exact h
    | stk => rw [q] at h; exact h
end
end DL
namespace DL
open PySem PySem.Spec PyProof.Rows L2 LamX
/-! ## one of two fresh lists -/
def fIf (mt : EnvD → Res Bool) (ma mb : EnvD → Res (List D)) : EnvD → Res (List D) := fun ρ => (mt ρ).bind fun k => if k = true then ma ρ else mb ρ
theorem aftF.ext {C : DC} {M : List Addr} {H H1 : Hp} {r : Res (List D)} {Q : VK} (h : aftF C M H r Q) (e : ExtT C H H1) : aftF C M H1 r Q := by
  cases r with
  | ok ds => exact fun p vs H' x hp z rd n => h p vs H' (e.trans x) hp z rd fun b o hb t => n b o (e.old b o hb t) t
  | exc c => exact fun H' x => h H' (e.trans x)
  | stk => exact h
section
variable {X : Cx} {T : List (Addr × Str)} {E : XK} {a b c : Expr} {pos : Pos} {ma mb : EnvD → Res (List D)} {mt : EnvD → Res Bool}
theorem f_if (hc : PT X c (tTD (dc X T E) mt)) (ha : PE X a (tF (dc X T E) ma)) (hb : PE X b (tF (dc X T E) mb)) : PE X (.IfExp c a b pos) (tF (dc X T E) (fIf mt ma mb)) := pe_imp (pe_ifExp hc ha hb) fun σ H Q ⟨M, ρ, st, q⟩ => by
  refine ⟨M, ρ, st, ?_⟩
  unfold fIf at q
  cases q1 : mt ρ with
  | ok k =>
    rw [q1] at q
    have q' : aftF (dc X T E) M H (if k = true then ma ρ else mb ρ) Q := q
    intro k' H1 e1 ra
    have e : k' = k := ra
    subst e
    cases k' with
    | true => exact ⟨M, ρ, st.ext e1, aftF.ext q' e1⟩
    | false => exact ⟨M, ρ, st.ext e1, aftF.ext q' e1⟩
  | exc c => rw [q1] at q; exact q
  | stk => rw [q1] at q; exact q
end
end DL
namespace DL
open PySem PySem.Spec PyProof.Rows L2 LamX
/-! ## enumerate(text) -/
def IteS (x : Str) : It :=
  ⟨fun i _ => i < x.cps.size, fun i H v H' => ∃ T c, v = .ref T ∧ H T = none ∧ H' = upd H T (.tup [.int (i : Nat), .str ⟨#[c]⟩]) ∧ x.cps[i]? = some c, fun i _ => x.cps.size ≤ i⟩
theorem turn_enumS {P : Program} {w : World} {K : PySem.W.Frag} {elts : List Expr} {kk : Nat} {tpos : Pos} (e it : Addr) (x : Str) (t : Tok) (ty : String) (hty : ty = "str_ascii_iterator" ∨ ty = "str_iterator") :
    Turn P w K (.Tuple elts kk tpos) (IteS x) [e, it] e (fun i h => i ≤ x.cps.size ∧ (∃ old, IsEnum h e it ((i : Nat) : Int) old) ∧ h.IsStrIter it ty x t i ∧ e ≠ it) where
  mem := by simp
  obj := fun i h st b hb => by
    obtain ⟨_, ⟨old, he⟩, ⟨o, ho, hc, hd⟩, _⟩ := st
    have e' : b = e ∨ b = it := by simpa using hb
    rcases e' with z | z
    · rw [z]; exact ⟨_, he, fun v q => nomatch q⟩
    · rw [z]; exact ⟨o, ho, fun v q => by rw [hd] at q; cases q⟩
  keep := fun i h h' st k => let ⟨hl, ⟨old, he⟩, ⟨o, ho, r⟩, hne⟩ := st; ⟨hl, ⟨old, k e (by simp) _ he⟩, ⟨o, k it (by simp) o ho, r⟩, hne⟩
  item := by
    intro X hP hw hK hc i pins s σ H E I hf st hg
    subst hP hw hK
    obtain ⟨hle, ⟨old, he⟩, hit, hne⟩ := st
    have hg' : i < x.cps.size := hg
    have W : Draws X.prog X.w X.A.in1 it [it] x.cps.size (fun i v => ∃ c u, x.cps[i]? = some c ∧ v = .str ⟨#[c]⟩ u) (fun i h => h.IsStrIter it ty x t i) := by
      rcases hty with z | z
      · rw [z]; exact Draws.strAscii (A := X.A.in1) (I.ok.hd hc) it x t
      · rw [z]; exact Draws.strWide (A := X.A.in1) (I.ok.hd hc) it x t
    have hel : e < s.heap.objs.size := Heap.lt_size he
    have hil : it < s.heap.objs.size := by obtain ⟨_, q, _⟩ := hit; exact Heap.lt_size q
    refine wpAny_pyNext_enum_itemD W he hit hg' hne (by simpa using hne) fun x1 h' tk hP ho hit' hT hsz hk => ?_
    obtain ⟨c, u, hcx, rfl⟩ := hP
    refine ⟨_, rfl, wpAny_letOwnedTupleGo_enum (s := { s with heap := h', toks := tk + 1 }) ho fun h'' he' sb => ?_⟩
    have hT2 : h''.get? s.heap.objs.size = some { cls := .type "tuple", data := .seq #[.int i tk, .str ⟨#[c]⟩ u] } := (sb.2 _ (Nat.ne_of_gt hel)).trans hT
    have new : ObjOk X.prog X.w (upd H s.heap.objs.size (.tup [.int (i : Nat), .str ⟨#[c]⟩])) h'' s.heap.objs.size (.tup [.int (i : Nat), .str ⟨#[c]⟩]) :=
      ⟨by show 2 ≤ sizeLine; decide, [.int i tk, .str ⟨#[c]⟩ u], .cons ⟨_, rfl⟩ (.cons ⟨u, rfl⟩ .nil), ⟨_, hT2, rfl, _, rfl⟩⟩
    have I1 : Inv X pins σ (upd H s.heap.objs.size (.tup [.int (i : Nat), .str ⟨#[c]⟩])) { s with heap := h'', toks := tk + 1 } :=
      I.turnedNew (ch := [e, it]) (fun b ob hb q => (sb.2 b (fun z => hb (by simp [z]))).trans (hk b ob (fun z => hb (by simp [z])) (fun z => hb (by simp [z])) q)) hf (Nat.le_refl _) new
    refine ⟨.ref s.heap.objs.size, _, I1, rfl, ⟨_, c, rfl, I.hok.fresh (Nat.le_refl _), rfl, hcx⟩, ⟨hg', ⟨.str ⟨#[c]⟩ u, ?_⟩, ?_, hne⟩, fun b hb => ?_⟩
    · have e1 : ((i + 1 : Nat) : Int) = (i : Int) + 1 := by omega
      rw [e1]; exact he'
    · obtain ⟨o, q, r⟩ := hit'
      exact ⟨o, (sb.2 it (Ne.symm hne)).trans q, r⟩
    · have hb' : b < s.heap.objs.size := by
        have e' : b = e ∨ b = it := by simpa using hb
        rcases e' with z | z
        · rw [z]; exact hel
        · rw [z]; exact hil
      rw [upd_ne (Nat.ne_of_lt hb')]
      exact (hf b hb).1
  done := by
    intro X hP hw hK hc i pins s σ H E I hf st hg
    subst hP hw hK
    obtain ⟨hle, ⟨old, he⟩, hit, hne⟩ := st
    have hg' : x.cps.size ≤ i := hg
    have ei : i = x.cps.size := Nat.le_antisymm hle hg'
    subst ei
    have W : Draws X.prog X.w X.A.in1 it [it] x.cps.size (fun i v => ∃ c u, x.cps[i]? = some c ∧ v = .str ⟨#[c]⟩ u) (fun i h => h.IsStrIter it ty x t i) := by
      rcases hty with z | z
      · rw [z]; exact Draws.strAscii (A := X.A.in1) (I.ok.hd hc) it x t
      · rw [z]; exact Draws.strWide (A := X.A.in1) (I.ok.hd hc) it x t
    obtain ⟨f0, f1, f2, f3, f4, f5⟩ := hf it (by simp)
    exact wpAny_pyNext_enum_endD W he hit fun h' eb => ⟨rfl, I.turned (t' := s.toks) (fun b o hb q => eb b o hb q) f0 f1 f3 f4 f5⟩
  self := fun A i s Q E st h => let ⟨_, ⟨_, he⟩, _⟩ := st; wpAny_pyIter_enum he h
def iEnumS (ta : TA) : TI := fun σ H R => ta σ H fun vs H1 => ∃ x, vs = [.str x] ∧ R (IteS x) H1
theorem pi_enumS {X : Cx} {e : Expr} {ta : TA} {p pos tpos : Pos} {elts : List Expr} {kk : Nat} (hg : Gl X "enumerate") (hm : X.mg "enumerate" = none) (ha : PA X [e] ta) (hs : starEach [e] X.env = [(false, eval e X.env)] := by rfl) :
    PI X (.Tuple elts kk tpos) (.Call (.Name "enumerate" p) [e] [] pos) (iEnumS ta) := by
  refine ⟨fun pins s σ H R I h => ?_⟩
  refine Call_ (ld_blt I hg hm boot_enumerate (PyProof.Rows.callWith_type1 (thn (ha.run pos pins s σ H _ I h) fun us s1 ⟨vs, H1, I1, r1, q1⟩ => ?_) hs rfl))
  obtain ⟨x, ex, q⟩ := q1
  subst ex
  cases r1 with
  | cons r rr =>
    cases rr
    obtain ⟨t, rfl⟩ := r
    refine call_enumerate_str fun h' he hit hsz hk => wpAny_pyIter_enum he ?_
    have I2 : Inv X pins σ H1 { s1 with heap := h' } := I1.kept (t' := s1.toks) hk
    have hty : strIterType x = "str_ascii_iterator" ∨ strIterType x = "str_iterator" := by
      unfold strIterType
      split
      · exact .inl rfl
      · exact .inr rfl
    refine ⟨s1.heap.objs.size + 1, [s1.heap.objs.size + 1, s1.heap.objs.size], _, _, H1, rfl, I2, turn_enumS (s1.heap.objs.size + 1) s1.heap.objs.size x t (strIterType x) hty, ⟨Nat.zero_le _, ⟨.none, he⟩, hit, Nat.succ_ne_self _⟩, fun b hb => ?_, q⟩
    have e' : b = s1.heap.objs.size + 1 ∨ b = s1.heap.objs.size := by simpa using hb
    have hle : s1.heap.objs.size ≤ b := by
      rcases e' with z | z
      · rw [z]; exact Nat.le_add_right _ _
      · rw [z]; exact Nat.le_refl _
    exact I1.fpOk hle (I1.hok.fresh hle)
theorem walk_enumS {z : Str} : Walk (IteS z) z.cps.size (fun _ => True) (fun i H v H' => ∃ T c, v = .ref T ∧ H T = none ∧ H' = upd H T (.tup [.int (i : Nat), .str ⟨#[c]⟩]) ∧ z.cps[i]? = some c) :=
  ⟨fun _ _ hi _ => hi, fun _ _ => Nat.le_refl _, fun _ _ _ _ _ _ y => y⟩
def enumSF : List D → Res (List D)
  | [.str s] => .ok (enumFrom 0 (s.map fun c => .str [c]))
  | _ => .stk
section
variable {X : Cx} {T : List (Addr × Str)} {E : XK} {e : Expr} {pos : Pos} {ma : EnvD → Res (List D)}
theorem i_enumS {elts : List Expr} {kk : Nat} {tpos p : Pos} (hg : Gl X "enumerate") (hm : X.mg "enumerate" = none) (h : PA X [e] (tAD (dc X T E) ma)) (hs : starEach [e] X.env = [(false, eval e X.env)] := by rfl) : PI X (.Tuple elts kk tpos) (.Call (.Name "enumerate" p) [e] [] pos) (tI (dc X T E) (iOfL enumSF ma)) :=
  pi_imp (pi_enumS hg hm h hs) fun σ H R ⟨M, ρ, st, q⟩ => by
    refine ⟨M, ρ, st, (aft_toI (Rel := RDs X.K) q).imp fun vs H1 ⟨ds, h0, e1, r1, q1⟩ => ?_⟩
    unfold enumSF at q1
    split at q1
    · rename_i z
      obtain ⟨v, rfl, r2⟩ := rds1 r1
      simp only [RD] at r2
      refine ⟨_, by rw [r2.1], q1 _ H1 (.refl e1.tab) ⟨by rw [enum_len, List.length_map]; exact r2.2.1, ?_⟩⟩
      rw [enum_len, List.length_map]
      have w := walk_enumS (z := ⟨z.toArray⟩)
      have ez : (⟨z.toArray⟩ : Str).cps.size = z.length := by show z.toArray.size = _; simp
      rw [ez] at w
      refine w.mono (fun _ _ => trivial) fun i H x H' hi hg y => ?_
      obtain ⟨Tp, c, rfl, n, rfl, hc⟩ := y
      have hc' : z[i]? = some c := by simpa using hc
      refine ⟨fun t => .new t n, .tup [.int (i : Nat), .str [c]], ?_, fun O hid h => tup2_rd hid n (by simp only [RD]) ?_⟩
      · rw [enum_get, List.getElem?_map, hc']
        simp
      · simp only [RD]
        exact ⟨by simp, by show 1 ≤ sizeLine; rw [sizeLine_eq]; decide, fun y hy => by rw [List.mem_singleton.mp hy]; exact r2.2.2 c (List.mem_of_getElem? hc')⟩
    · exact q1.elim
end
end DL
/-! ## try .. except (A, B, C) -/
namespace L2N
open PySem PySem.Spec PyProof.Rows L2
/-- what the clause wishes of an exception of the body -/
def wTup (K : PySem.W.Frag) (Wout : WX) (D : Ends) (cs : List Value) (ts : Addr → Value → Option Addr → TS) : WX :=
  fun cls d σ H => ∃ b, PySem.W.exmAny K cls cs = some b ∧ (b = true → ∀ a, H a = none → ts a cls d D σ H) ∧ (b = false → Wout cls d σ H)
theorem flyZ_keeps {B h h' : Heap} {l : List Env} {e : Addr} {Z : Obj → Prop} (x : HandSPX.FlyingZ B l e Z h) (k : ∀ b o, h.get? b = some o → h'.get? b = some o) : HandSPX.FlyingZ B l e Z h' := by
  obtain ⟨f1, f2, f3, oe, vs, T, oT, ts, he, hz, hd, h1, hn, hne, hT, hdT, h3⟩ := x
  exact ⟨fun b o q => k b o (f1 b o q), f2, f3.of_keeps fun b o q _ => ⟨o, k b o q, rfl⟩, oe, vs, T, oT, ts, k _ _ he, hz, hd, h1, hn, hne, k _ _ hT, hdT, h3⟩
section
variable {X : Cx} {body : List Stmt} {pos : Pos} {tb : WX → TS} {Wout : WX}
theorem ps_try_tup3 {x1 x2 x3 : Str} {c1 c2 c3 : Value} {ts : Addr → Value → Option Addr → TS} {b₀ : Stmt} {suite : List Stmt} {np1 np2 np3 tpos pos' : Pos} {kk : Nat} (hs : X.stack = X.env :: X.outer) (hf : X.env.frame = some X.env.locals) (tk : Takes X Wout)
    (n1 : Names X x1 c1) (n2 : Names X x2 c2) (n3 : Names X x3 c3)
    (hsu : ∀ (a : Addr) (oe : Obj) (cls : Value) (d : Option Addr) (pn : List (Addr × Obj)), Zn cls d oe → (∃ vs, oe.data = .fields vs) → PSs (X.suite a ((a, oe) :: pn)) (b₀ :: suite) (ts a cls d))
    (hb : ∀ (W : WX) (pn : List (Addr × Obj)) (xe : Value → Shared → Prop), Takes (X.tr pn xe) W → PassesOwn (model X.prog X.w) X.A X.env xe → PSs (X.tr pn xe) body (tb W)) :
    PS X (.Try body [.ExceptHandler (some (.Tuple [.Name x1 np1, .Name x2 np2, .Name x3 np3] kk tpos)) none (b₀ :: suite) pos'] [] [] pos) (fun D σ H => tb (wTup X.K Wout D [c1, c2, c3] ts) D σ H) := by
  refine ⟨fun pins s σ H D I h => ?_⟩
  have ok := I.ok
  have hfr : X.A.frames = some (X.env :: X.outer) := by rw [ok.frames, hs]
  refine wpAny_Try_except ?_
  refine wpAny_mono ((hb (wTup X.K Wout D [c1, c2, c3] ts) (X.pn ++ pins) (fun e s₁ => wpAny (model X.prog X.w) X.A (noteFrame e X.env) (fun _ s₂ => wpAny (model X.prog X.w) X.A (setFlight e none) (fun _ s₃ =>
    wpAny (model X.prog X.w) X.A (handleBy e X.env [.ExceptHandler (some (.Tuple [.Name x1 np1, .Name x2 np2, .Name x3 np3] kk tpos)) none (b₀ :: suite) pos']) (SP X pins D) X.xe s₃) X.xe s₂) X.xe s₁) (fun u s' xx => ?_) PassesOwn.looking).run [] s σ H D (I.toTry _) h) (fun f s1 hsp => ?_) (fun e s1 he => he)
  · obtain ⟨a, B, sI, pins', σ', H', cls, d, rfl, J', nb, up, sky, na, os, ag, w⟩ := xx
    have J : Inv X pins σ' H' sI := J'.ofTry ok
    have sky' : Sky B (X.env :: X.outer) a (Zn cls d) X.env.locals s'.heap := by rw [← hs]; exact sky
    show wpAny (model X.prog X.w) X.A (noteFrame (.ref a) X.env) _ _ _
    refine Sky.land Zn.steady hfr hf sky' fun h3 fl3 up3 => ?_
    have J3 : Inv X pins σ' H' { s' with heap := h3 } := J.landed nb fl3.1 (up.trans up3) os ag
    obtain ⟨oe3, vs3, he3, hz3, hd3⟩ := fl3.there
    have notFr : ∀ {h : Heap} {o : Obj} {vs : Array Value}, h.FunFrames B (X.env :: X.outer) → h.get? a = some o → o.data = .fields vs → a ∉ frs (X.env :: X.outer) := fun {h o vs} ff e dd hm => by
      obtain ⟨_, o', e', hnf⟩ := ff.mem hm
      rw [e] at e'; cases e'
      exact hnf _ dd
    have nfr := notFr fl3.2.2.1 he3 hd3
    have nL : a ≠ X.env.locals := fun z => nfr (List.mem_filterMap.mpr ⟨X.env, List.mem_cons_self, by rw [hf, z]⟩)
    have nF : a ∉ X.fs := fun hm => by
      obtain ⟨e, he, q⟩ := List.mem_filterMap.mp hm
      exact nfr (List.mem_filterMap.mpr ⟨e, List.mem_cons_of_mem _ he, q⟩)
    have S3 := J3.suite he3 hd3 na nL nF
    obtain ⟨b, hb1, hyes, hno⟩ := w
    refine wpAny_handleBy_cons (codeAny_handlers_test ?_) (by intro q; cases q)
    have LT : PySem.W.Looks (model X.prog X.w) h3 (typeOf (.ref a)) cls := fun A Q E s k q => wpAny_typeOf_ref (k _ _ he3) (by rw [hz3.1]; exact q)
    have nm : ∀ {x : Str} {c : Value} {np : Pos} {Q : Value → Shared → Prop} {E : Value → Shared → Prop}, Names X x c → Q c { s' with heap := h3 } → wpAny (model X.prog X.w) (X.A.mark (some (.ref a))) (eval (.Name x np) X.env) Q E { s' with heap := h3 } := fun {x c np Q E} hc q => by
      obtain ⟨hg, hdbg, hm | ⟨hm, hv, hnn⟩⟩ := hc
      · exact ld_glob (X := X.suite a ((a, oe3) :: (X.pn ++ pins))) S3 hg hm q hdbg
      · exact ld_blt (X := X.suite a ((a, oe3) :: (X.pn ++ pins))) S3 hg hm hv q hnn hdbg
    have kp : ∀ q o, h3.get? q = some o → (h3.push { cls := .type "tuple", data := .seq [c1, c2, c3].toArray }).get? q = some o := fun _ _ z => Heap.get?_push_of_some _ z
    have J4' : Inv X pins σ' H' { s' with heap := h3.push { cls := .type "tuple", data := .seq [c1, c2, c3].toArray } } := J3.kept (t' := s'.toks) kp
    have LM := PySem.W.exm_tup3 (M := model X.prog X.w) (J4'.kIn) (LT.keeps kp) (Heap.get?_push_size h3 rfl) hb1
    have fl3' := flyZ_keeps fl3 kp
    have up3' : h3.UpToSlots (h3.push { cls := .type "tuple", data := .seq [c1, c2, c3].toArray }) := Heap.UpToSlots.of_keeps kp
    refine wpAny_Tuple ?_
    refine wpAny_items_cons (nm n1 ?_)
    refine wpAny_items_cons (nm n2 ?_)
    refine wpAny_items_cons (nm n3 ?_)
    refine wpAny_items_nil ⟨by size_fits, ?_⟩
    refine LM.here ?_
    cases b with
    | true =>
      refine codeAny_handlers_suite ?_
      refine HandSPX.lands_againZ fl3' fun h4 fl4 up4 => ?_
      have J4 : Inv X pins σ' H' { s' with heap := h4 } := J.landed nb fl4.1 (((up.trans up3).trans up3').trans up4) os ag
      obtain ⟨oe4, vs4, he4, hz4, hd4⟩ := fl4.there
      have S4 := J4.suite he4 hd4 na nL nF
      refine wpAny_mono ((hsu a oe4 cls d (X.pn ++ pins) hz4 ⟨_, hd4⟩).run [] _ _ H' _ S4 (hyes rfl a na)) (fun f s6 hsp => ?_) (fun _ _ z => False.elim z)
      cases f with
      | next =>
        obtain ⟨σ6, H6, S6, q6⟩ := hsp
        exact ⟨_, _, S6.unsuite ok, q6⟩
      | brk =>
        obtain ⟨σ6, H6, S6, q6⟩ := hsp
        exact ⟨_, _, S6.unsuite ok, q6⟩
      | cont =>
        obtain ⟨σ6, H6, S6, q6⟩ := hsp
        exact ⟨_, _, S6.unsuite ok, q6⟩
      | ret u =>
        obtain ⟨v6, σ6, H6, S6, r6, q6⟩ := hsp
        exact ⟨_, _, _, S6.unsuite ok, r6, q6⟩
    | false =>
      show wpAny _ X.A (handleBy (.ref a) X.env []) _ _ _
      refine wpAny_handleBy_nil ?_
      obtain ⟨k1, k2, k3, oe, vs, T, oT, ts', he, hz, hd, h1, hr⟩ := id fl3'
      unfold PySem.passOn
      refine wpAny_bind (wpAny_field he hd h1 ?_)
      rw [if_neg (show ¬ ((Value.ref T == Value.none) = true) from by simp)]
      have fin : wpAny (model X.prog X.w) X.A (setFlight (.ref a) X.env.frame) (fun _ s4 => wpAny (model X.prog X.w) X.A (throw (.ref a) : Sem Flow) (SP X pins D) X.xe s4) X.xe { s' with heap := h3.push { cls := .type "tuple", data := .seq [c1, c2, c3].toArray } } := by
        rw [hf]
        refine HandSPX.setFlight_upZ fl3' fun h4 hh4 up4 => wpAny_throw (tk _ _ ?_)
        exact ⟨a, B, sI, pins, σ', H', cls, d, rfl, J, nb, ((up.trans up3).trans up3').trans up4, .inr (.inr (by rw [hs]; exact hh4)), na, os, ag, hno rfl⟩
      first
        | exact wpAny_bind (wpAny_pure (wpAny_bind fin))
        | exact wpAny_bind fin
  · cases f with
    | next =>
      obtain ⟨σ', H', J', q⟩ := hsp
      exact wpAny_execs_nil ⟨σ', H', J'.ofTry ok, q⟩
    | brk =>
      obtain ⟨σ', H', J', q⟩ := hsp
      exact ⟨σ', H', J'.ofTry ok, q⟩
    | cont =>
      obtain ⟨σ', H', J', q⟩ := hsp
      exact ⟨σ', H', J'.ofTry ok, q⟩
    | ret u =>
      obtain ⟨v, σ', H', J', r, q⟩ := hsp
      exact ⟨v, σ', H', J'.ofTry ok, r, q⟩
end
end L2N
namespace DL
open PySem PySem.Spec PyProof.Rows L2 LamX
theorem putS_noexc {i : Nat} {k d : D} {ρ : EnvS} {c : String} : putS i k d ρ ≠ .exc c := by
  unfold putS
  intro h
  split at h
  · split at h
    · split at h <;> cases h
    · cases h
  · split at h
    · split at h <;> cases h
    · cases h
  · cases h
theorem exm_map {K : PySem.W.Frag} {cs : List String} (C : ClsX K cs) {c' : String} (hm : c' ∈ cs) : ∀ xs : List String, (∀ x ∈ xs, x ∈ cs) → PySem.W.exmAny K (.ref (He.ga K (Str.ofString c'))) (xs.map fun x => .ref (He.ga K (Str.ofString x))) = some (decide (c' ∈ xs))
  | [], _ => by simp [PySem.W.exmAny]
  | x :: xs, h => by
    have ih := exm_map C hm xs fun y hy => h y (List.mem_cons_of_mem _ hy)
    have e := C.exq c' hm x (h x List.mem_cons_self)
    rw [List.map_cons, PySem.W.exmAny, e, ih]
    simp only [Option.some.injEq]
    by_cases q : c' = x
    · subst q; simp
    · by_cases q2 : c' ∈ xs <;> simp [q, q2]
/-- try: st; except one of xs: suite (cs: the classes that are known) -/
def sTryCs (cs xs : List String) (mb ms : EnvS → Out) : EnvS → Out := fun ρ => match mb ρ with
  | .exc c' => if c' ∈ cs then (if c' ∈ xs then ms ρ else .exc c') else .stk
  | r => r
section
variable {X : Cx} {T : List (Addr × Str)} {E : XK} {W : WX} {pos : Pos} {x : Str}
/-- d[f(..)] = v -/
theorem q_putX {i : Nat} {o ix ev : Expr} {pos' : Pos} {mk me : EnvD → Res D} {dv : D} (hu : X.A.units + 1 < cLine) (ho : PE X o (tVar i)) (hk : PE X ix (tDX X T W mk)) (he : PE X ev (tD (dc X T E) me)) (hm : ∀ ρ, me ρ = .ok dv) (hd : isFlat dv = true)
    (hs : swapsWith ev (some (.Subscript o ix pos')) pos.line X.env = pure false := by rfl) :
    PS X (.Assign [.Subscript o ix pos'] ev pos) (tSX X T E W (sPut [] i mk me)) := ps_imp (ps_dput hu ho hk he hs) fun D σ H ⟨G, M, O, ρ, s, h⟩ => by
  refine ⟨O, _, s.toE, ?_⟩
  rw [hm]
  have f0 : freeze [] ρ = ρ := by simp only [freeze]
  have hS : sPut [] i mk me ρ = match ρ[i]? with
    | some (.tre _) => (match (mk (vis ρ)) with
      | .ok k => putS i k dv ρ
      | .exc c => .exc c
      | .stk => .stk)
    | _ => .stk := by
    unfold sPut
    simp only [f0, hm, ite_self, Res.bind_ok]
    cases ρ[i]? with
    | none => rfl
    | some sl =>
      cases sl with
      | tre t0 => cases mk (vis ρ) <;> rfl
      | _ => rfl
  rw [hS] at h
  cases e0 : ρ[i]? with
  | none => rw [e0] at h; exact h.elim
  | some sl =>
  rw [e0] at h
  cases sl with
  | no => exact h.elim
  | val _ => exact h.elim
  | own _ => exact h.elim
  | tre t0 =>
  obtain ⟨v0, fp0, hv0, _⟩ := s.tre_put e0
  intro v H1 e1 r1
  refine ⟨v0, hv0, ?_⟩
  have go : ∀ {O2 : List Addr} {ρ2 : EnvS} {k : DL.D} {d : DL.D} {u : V} {H2 : Hp}, StS (dc X T E) G M O2 σ ρ2 H2 → RD X.K (hide O2 H2) v d → (∃ Hk, RD X.K Hk u k ∧ ExtN Hk H2) → aftS (dc X T E) G M (putS i k d ρ2) D → ∃ (p : Addr) (H4 : Hp), σ[i]? = some (some (.ref p)) ∧ DPut H2 p u v H4 ∧ D.nx σ H4 := fun {O2 ρ2 k d u H2} s2 r2 ⟨Hk, rk, ek⟩ h' => by
    unfold putS at h'
    split at h'
    · rename_i ks ts e
      cases ek : kD k with
      | none => rw [ek] at h'; exact h'.elim
      | some kk =>
        rw [ek] at h'
        obtain ⟨hz, h'⟩ : ks.length < LIM ∧ aftS (dc X T E) G M (.next (ρ2.set i (.tre (.dK (putTs ks ts kk (.leaf d)).1 (putTs ks ts kk (.leaf d)).2)))) D := by
          by_cases c : ks.length < LIM
          · refine ⟨c, ?_⟩
            have h'' : aftS (dc X T E) G M (if ks.length < LIM then .next (ρ2.set i (.tre (.dK (putTs ks ts kk (.leaf d)).1 (putTs ks ts kk (.leaf d)).2))) else .stk) D := h'
            rw [if_pos c] at h''; exact h''
          · have h'' : aftS (dc X T E) G M (if ks.length < LIM then .next (ρ2.set i (.tre (.dK (putTs ks ts kk (.leaf d)).1 (putTs ks ts kk (.leaf d)).2))) else .stk) D := h'
            rw [if_neg c] at h''; exact h''.elim
        obtain ⟨p, H4, b1, b2, b3⟩ := s2.putK e (keyOk_rd rk ek) r2 hz
        exact ⟨p, H4, b1, by rw [kD_rd rk ek]; exact b2, h' O2 σ H4 b3⟩
    · rename_i ks ts e
      cases ek2 : tupKs k with
      | none => rw [ek2] at h'; exact h'.elim
      | some kk =>
        rw [ek2] at h'
        obtain ⟨hz, h'⟩ : ks.length < LIM ∧ aftS (dc X T E) G M (.next (ρ2.set i (.tre (.dT (putTs ks ts kk (.leaf d)).1 (putTs ks ts kk (.leaf d)).2)))) D := by
          by_cases c : ks.length < LIM
          · refine ⟨c, ?_⟩
            have h'' : aftS (dc X T E) G M (if ks.length < LIM then .next (ρ2.set i (.tre (.dT (putTs ks ts kk (.leaf d)).1 (putTs ks ts kk (.leaf d)).2))) else .stk) D := h'
            rw [if_pos c] at h''; exact h''
          · have h'' : aftS (dc X T E) G M (if ks.length < LIM then .next (ρ2.set i (.tre (.dT (putTs ks ts kk (.leaf d)).1 (putTs ks ts kk (.leaf d)).2))) else .stk) D := h'
            rw [if_neg c] at h''; exact h''.elim
        cases k with
        | tup ds =>
          simp only [RD] at rk
          obtain ⟨b, ws, rfl, tb, _, rs⟩ := rk
          have hw := kDs_rd rs ek2
          subst hw
          obtain ⟨p, H4, b1, b2, b3⟩ := s2.putT e (keysOk_rd rs ek2) (ek b _ tb (fun ps z => by cases z)) r2 hz
          exact ⟨p, H4, b1, b2, h' O2 σ H4 b3⟩
        | _ => cases ek2
    · exact h'.elim
  have s1 := s.ext e1
  refine ⟨O, vis ρ, ⟨s1.tab, s1.hid, s1.toE.len, s1.toE.env⟩, ?_⟩
  cases q2 : mk (vis ρ) with
  | exc c => simp only [q2] at h; exact fun H' e => h H' (e1.trans ⟨e.old, e.tab⟩)
  | stk => simp only [q2] at h; exact h
  | ok k =>
    simp only [q2] at h
    have h' : aftS (dc X T E) G M (putS i k dv ρ) D := by
      cases e : putS i k dv ρ with
      | exc c => exact (putS_noexc e).elim
      | next _ => rw [e] at h; exact h
      | ret _ => rw [e] at h; exact h
      | brk _ => rw [e] at h; exact h
      | cont _ => rw [e] at h; exact h
      | stk => rw [e] at h; exact h
    intro u H2 e2 r2
    obtain ⟨p, H4, b1, b2, b3⟩ := go (s1.ext ⟨e2.old, e2.tab⟩) (flat_any r1 hd) ⟨_, r2, hide_le _ _⟩ h'
    rw [hv0] at b1; cases b1
    exact ⟨p, H4, rfl, b2, b3⟩
theorem q_try3 {cs : List String} {c1 c2 c3 : String} {body suite : List Stmt} {b₀ : Stmt} {np1 np2 np3 tpos pos' : Pos} {kk : Nat} {mb ms : EnvS → Out} (C : ClsX X.K cs) (hc1 : c1 ∈ cs) (hc2 : c2 ∈ cs) (hc3 : c3 ∈ cs) (hst : X.stack = X.env :: X.outer) (hfr : X.env.frame = some X.env.locals) (tk : L2N.Takes X fun cls d _ H => E cls d H)
    (hg1 : X.mg (Str.ofString c1) = some (.ref (He.ga X.K (Str.ofString c1)))) (hg2 : X.mg (Str.ofString c2) = some (.ref (He.ga X.K (Str.ofString c2)))) (hg3 : X.mg (Str.ofString c3) = some (.ref (He.ga X.K (Str.ofString c3))))
    (hgl1 : Gl X (Str.ofString c1)) (hgl2 : Gl X (Str.ofString c2)) (hgl3 : Gl X (Str.ofString c3))
    (hb : ∀ (W : WX) (pn : List (Addr × Obj)) (xe : Value → Shared → Prop), L2N.Takes (X.tr pn xe) W → PassesOwn (model X.prog X.w) X.A X.env xe → PSs (X.tr pn xe) body (tSX (X.tr pn xe) T E W mb))
    (hsu : ∀ (a : Addr) (oe : Obj) (pn : List (Addr × Obj)), (∃ vs, oe.data = .fields vs) → PSs (X.suite a ((a, oe) :: pn)) (b₀ :: suite) (tS (dc X T E) ms))
    (hdb1 : (Str.ofString c1 == ("__debug__" : Str)) = false := by decide) (hdb2 : (Str.ofString c2 == ("__debug__" : Str)) = false := by decide) (hdb3 : (Str.ofString c3 == ("__debug__" : Str)) = false := by decide) :
    PS X (.Try body [.ExceptHandler (some (.Tuple [.Name (Str.ofString c1) np1, .Name (Str.ofString c2) np2, .Name (Str.ofString c3) np3] kk tpos)) none (b₀ :: suite) pos'] [] [] pos) (tS (dc X T E) (sTryCs cs [c1, c2, c3] mb ms)) :=
  ps_imp (L2N.ps_try_tup3 (tb := fun W => tSX X T E W mb) (ts := fun _ _ _ => tS (dc X T E) ms) hst hfr tk ⟨hgl1, hdb1, .inl hg1⟩ ⟨hgl2, hdb2, .inl hg2⟩ ⟨hgl3, hdb3, .inl hg3⟩ (fun a oe cls d pn hz hf => hsu a oe pn hf) (fun W pn xe t p => hb W pn xe t p)) fun D σ H ⟨G, M, O, ρ, s, h⟩ => by
    refine ⟨G, M, O, ρ, s, ?_⟩
    unfold sTryCs at h
    cases q : mb ρ with
    | exc c' =>
      rw [q] at h
      have h' : aftS (dc X T E) G M (if c' ∈ cs then (if c' ∈ [c1, c2, c3] then ms ρ else .exc c') else .stk) D := h
      by_cases hm : c' ∈ cs
      · rw [if_pos hm] at h'
        intro H' e
        refine ⟨decide (c' ∈ [c1, c2, c3]), exm_map C hm [c1, c2, c3] (fun y hy => by
          simp only [List.mem_cons, List.not_mem_nil, or_false] at hy
          rcases hy with rfl | rfl | rfl
          · exact hc1
          · exact hc2
          · exact hc3), fun hy a na => ?_, fun hno => ?_⟩
        · rw [if_pos (of_decide_eq_true hy)] at h'
          exact ⟨G, M, O, ρ, s.ext e, h'⟩
        · rw [if_neg (of_decide_eq_false hno)] at h'
          exact aftS_exc s h' H' e
      · rw [if_neg hm] at h'; exact h'.elim
    | next ρ' => rw [q] at h; exact h
    | ret d => rw [q] at h; exact h
    | brk ρ' => rw [q] at h; exact h
    | cont ρ' => rw [q] at h; exact h
    | stk => rw [q] at h; exact h
end
end DL
namespace DL
open PySem PySem.Spec PyProof.Rows L2 LamX
/-! ## the module's tuple of texts -/
def strV (s : List Nat) : V := .str ⟨s.toArray⟩
/-- the module's name x is a tuple of these texts -/
structure GTup (K : PySem.W.Frag) (mg : Str → Option Value) (x : Str) (ws : List (List Nat)) : Prop where
  at_ : mg x = some (.ref (He.ga K x))
  tup : ∀ H, SqT K H (He.ga K x) (ws.map strV)
  few : ws.length ≤ sizeLine
  okS : ws.all okSB = true
theorem in_strs (s : List Nat) : ∀ ws : List (List Nat), inV (strV s) (ws.map strV) = decide (s ∈ ws)
  | [] => rfl
  | w :: ws => by
    have ih := in_strs s ws
    have e : eqV (strV w) (strV s) = decide (s = w) := by
      show ((⟨w.toArray⟩ : Str) == ⟨s.toArray⟩) = _
      rw [Bool.eq_iff_iff, beq_iff_eq, decide_eq_true_eq]
      exact ⟨fun h => (by simpa using congrArg (fun z : Str => z.cps.toList) h : w = s).symm, fun h => by rw [h]⟩
    unfold inV at ih ⊢
    rw [List.map_cons, List.any_cons, ih, e]
    by_cases h : s = w <;> by_cases h2 : s ∈ ws <;> simp [h, h2]
theorem flat_strs (ws : List (List Nat)) : (ws.map strV).all flatV = true := by
  rw [List.all_eq_true]
  intro v hv
  obtain ⟨w, _, rfl⟩ := List.mem_map.mp hv
  rfl
def inGF (ws : List (List Nat)) : D → Res D
  | .str s => .ok (.bl (decide (s ∈ ws)))
  | _ => .stk
def notInGF (ws : List (List Nat)) : D → Res D
  | .str s => .ok (.bl (!decide (s ∈ ws)))
  | _ => .stk
section
variable {X : Cx} {T : List (Addr × Str)} {E : XK} {e tg : Expr} {pos p : Pos} {me : EnvD → Res D} {x : Str} {ws : List (List Nat)}
theorem inG_imp (G : GTup X.K X.mg x ws) : ∀ σ H Q, tD (dc X T E) (m1 (inGF ws) me) σ H Q → tOp (rIn X.K false) (tD (dc X T E) me) (tC (.ref (He.ga X.K x))) σ H Q := fun σ H Q ⟨M, ρ, st, q⟩ => by
  refine ⟨M, ρ, st, (aft.bind (Rel := RD X.K) q).imp fun v H1 ⟨a, _, e1, ra, h1⟩ => ?_⟩
  cases a with
  | str s =>
    simp only [RD] at ra
    refine ⟨_, _, rfl, .inr (G.tup H1), by rw [ra.1]; rfl, flat_strs ws, ?_⟩
    have e2 : inV v (ws.map strV) = decide (s ∈ ws) := by rw [ra.1]; exact in_strs s ws
    rw [e2]
    exact h1 _ H1 (.refl e1.tab) (by simp only [RD]; rfl)
  | _ => exact h1.elim
theorem notInG_imp (G : GTup X.K X.mg x ws) : ∀ σ H Q, tD (dc X T E) (m1 (notInGF ws) me) σ H Q → tOp (rIn X.K true) (tD (dc X T E) me) (tC (.ref (He.ga X.K x))) σ H Q := fun σ H Q ⟨M, ρ, st, q⟩ => by
  refine ⟨M, ρ, st, (aft.bind (Rel := RD X.K) q).imp fun v H1 ⟨a, _, e1, ra, h1⟩ => ?_⟩
  cases a with
  | str s =>
    simp only [RD] at ra
    refine ⟨_, _, rfl, .inr (G.tup H1), by rw [ra.1]; rfl, flat_strs ws, ?_⟩
    have e2 : inV v (ws.map strV) = decide (s ∈ ws) := by rw [ra.1]; exact in_strs s ws
    rw [e2]
    exact h1 _ H1 (.refl e1.tab) (by simp only [RD]; rfl)
  | _ => exact h1.elim
theorem d_inG (G : GTup X.K X.mg x ws) (he : PE X e (tD (dc X T E) me)) (hg : Gl X x := by rfl) (hd : (x == ("__debug__" : Str)) = false := by decide) : PE X (.Compare e [.In] [.Name x p] pos) (tD (dc X T E) (m1 (inGF ws) me)) :=
  pe_imp (pe_cmpR op_in_seq he (pe_glob (v := .ref (He.ga X.K x)) hg G.at_ rfl hd) (by with_unfolding_all rfl)) (inG_imp G)
theorem t_inG (G : GTup X.K X.mg x ws) (he : PE X e (tD (dc X T E) me)) (hg : Gl X x := by rfl) (hd : (x == ("__debug__" : Str)) = false := by decide) : PT X (.Compare e [.In] [.Name x p] pos) (tTD (dc X T E) (mB (m1 (inGF ws) me))) :=
  pt_imp (pt_cmpR op_in_seq he (pe_glob (v := .ref (He.ga X.K x)) hg G.at_ rfl hd) (by with_unfolding_all rfl)) (test_imp (inG_imp G))
theorem d_notInG (G : GTup X.K X.mg x ws) (he : PE X e (tD (dc X T E) me)) (hg : Gl X x := by rfl) (hd : (x == ("__debug__" : Str)) = false := by decide) : PE X (.Compare e [.NotIn] [.Name x p] pos) (tD (dc X T E) (m1 (notInGF ws) me)) :=
  pe_imp (pe_cmpR op_notIn_seq he (pe_glob (v := .ref (He.ga X.K x)) hg G.at_ rfl hd) (by with_unfolding_all rfl)) (notInG_imp G)
theorem t_notInG (G : GTup X.K X.mg x ws) (he : PE X e (tD (dc X T E) me)) (hg : Gl X x := by rfl) (hd : (x == ("__debug__" : Str)) = false := by decide) : PT X (.Compare e [.NotIn] [.Name x p] pos) (tTD (dc X T E) (mB (m1 (notInGF ws) me))) :=
  pt_imp (pt_cmpR op_notIn_seq he (pe_glob (v := .ref (He.ga X.K x)) hg G.at_ rfl hd) (by with_unfolding_all rfl)) (test_imp (notInG_imp G))
theorem rds_strs {K : PySem.W.Frag} {H : Hp} : ∀ {ws : List (List Nat)}, ws.all okSB = true → RDs K H (ws.map strV) (ws.map .str)
  | [], _ => by simp [RDs]
  | w :: ws, h => by
    rw [List.all_cons, Bool.and_eq_true] at h
    simp only [List.map_cons, RDs]
    exact ⟨_, _, rfl, by simp only [RD]; exact ⟨rfl, okS_of h.1⟩, rds_strs h.2⟩
/-- walking it -/
def iGF (ws : List (List Nat)) : EnvD → Res (List D) := fun _ => .ok (ws.map .str)
theorem i_gtup (G : GTup X.K X.mg x ws) (hg : Gl X x := by rfl) (hd : (x == ("__debug__" : Str)) = false := by decide) : PI X tg (.Name x p) (tI (dc X T E) (iGF ws)) := pi_imp (pi_tup (pe_glob (v := .ref (He.ga X.K x)) hg G.at_ rfl hd)) fun σ H R ⟨M, ρ, st, q⟩ =>
  ⟨_, rfl, ⟨_, G.tup H⟩, q _ H (.refl st.tab) (iter_tup (G.tup _) (by rw [List.length_map]; exact G.few) (rds_strs G.okS))⟩
end
/-- from the head -/
theorem gtup_of {K : PySem.W.Frag} {mg : Str → Option Value} {x : Str} {ws : List (List Nat)} {zs : List Str} (h : mg x = some (.ref (He.ga K x))) (ht : He.tupB K x (zs.map He.Dv.str) = true) (hz : zs = ws.map fun s => ⟨s.toArray⟩) (h1 : ws.length ≤ 1000) (h2 : ws.all okSB = true) : GTup K mg x ws := by
  refine ⟨h, fun H => ?_, by rw [sizeLine_eq]; omega, h2⟩
  have := He.tupB_ok ht H
  rw [hz, List.map_map, List.map_map] at this
  exact this
end DL
namespace DL
open PySem PySem.Spec PyProof.Rows L2 LamX
/-! ## expressions behind which a token has been given; s.replace(y, z) -/
def PE1 (X : Cx) (e : Expr) (t : TE) : Prop :=
  ∀ (pins : List (Addr × Obj)) (s : Shared) (σ : L2.St) (H : Hp) (Q : VK), Inv X pins σ H s → t σ H Q → wpAny (model X.prog X.w) X.A (eval e X.env) (fun v s' => 1 ≤ s'.toks ∧ EP X pins σ Q v s') X.xe s
def PA1 (X : Cx) (es : List Expr) (t : TA) : Prop :=
  ∀ (pos : Pos) (pins : List (Addr × Obj)) (s : Shared) (σ : L2.St) (H : Hp) (Q : List V → Hp → Prop), Inv X pins σ H s → t σ H Q → wpAny (model X.prog X.w) X.A (spliced (backTo pos (starEach es X.env))) (fun us s' => 1 ≤ s'.toks ∧ AP X pins σ Q us s') X.xe s
/-- a token given ahead stays given -/
theorem later {α : Type} {M : Model} {A : Around} {t : Sem α} {Q : α → Shared → Prop} {E : Value → Shared → Prop} {s : Shared} (hn : 1 ≤ s.toks) (h : wpAny M A t Q E s) : wpAny M A t (fun a s' => 1 ≤ s'.toks ∧ Q a s') E s :=
  wpAny_mono (wpAny_toks_of hn h) (fun _ _ q => q) fun _ _ q => q.2
section
variable {X : Cx} {e o : Expr} {es : List Expr} {t t' : TE} {ta : TA} {to : TE} {y z : Str} {j k : Nat} {c0 c1 apos pos p : Pos}
theorem pe1_imp (h : PE1 X e t) (i : ∀ σ H Q, t' σ H Q → t σ H Q) : PE1 X e t' := fun pins s σ H Q I q => h pins s σ H Q I (i σ H Q q)
theorem pa1_imp {ta' : TA} (h : PA1 X es ta) (i : ∀ σ H Q, ta' σ H Q → ta σ H Q) : PA1 X es ta' := fun pos pins s σ H Q I q => h pos pins s σ H Q I (i σ H Q q)
theorem pe1_int {i : Int} {j : Nat} : PE1 X (.Constant (.int i) j pos) (tC (.int i)) := fun _ s _ H _ I h => wpAny_Constant_int ⟨Nat.le_add_left 1 s.toks, .int i, H, I.tok _, ⟨_, rfl⟩, h⟩
theorem pe1_str {x : Str} {j : Nat} : PE1 X (.Constant (.str x) j pos) (tC (.str x)) := fun _ s _ H _ I h => Calls.Constant_str ⟨Nat.le_add_left 1 s.toks, .str x, H, I.tok _, ⟨_, rfl⟩, h⟩
/-- the head gives one -/
theorem pa1_head (ha : PE1 X e t) (hr : PA X es ta) (hs : starEach (e :: es) X.env = (false, eval e X.env) :: starEach es X.env := by rfl) : PA1 X (e :: es) (tCons t ta) := by
  intro pos pins s σ H Q I h
  show wpAny _ _ (spliced (backTo pos (starEach (e :: es) X.env))) _ _ _
  rw [hs]
  refine Calls.spliced_cons (thn (ha pins s σ H _ I h) fun v s1 ⟨n1, x, H1, I1, r1, q1⟩ => ?_)
  refine thn (later n1 (hr.run pos pins s1 σ H1 _ I1 q1)) fun us s2 ⟨n2, vs, H2, I2, r2, q2⟩ => ?_
  exact ⟨n2, x :: vs, H2, I2, .cons r1 r2, q2⟩
theorem pa1_tail (ha : PE X e t) (hr : PA1 X es ta) (hs : starEach (e :: es) X.env = (false, eval e X.env) :: starEach es X.env := by rfl) : PA1 X (e :: es) (tCons t ta) := by
  intro pos pins s σ H Q I h
  show wpAny _ _ (spliced (backTo pos (starEach (e :: es) X.env))) _ _ _
  rw [hs]
  refine Calls.spliced_cons (thn (ha.run pins s σ H _ I h) fun v s1 ⟨x, H1, I1, r1, q1⟩ => ?_)
  refine thn (hr pos pins s1 σ H1 _ I1 q1) fun us s2 ⟨n2, vs, H2, I2, r2, q2⟩ => ?_
  exact ⟨n2, x :: vs, H2, I2, .cons r1 r2, q2⟩
theorem pe1_call {CX : CXT} {n : Nat} {f : Addr} {fd : FuncData} {ps : List Str} {sp : Sp} {x : Str} {E : XK} {dvs : List V} {ds : List Value} (F : FnOk X.prog X.w X.K X.mg X.base CX n f fd ps sp) (hr : Room n X.A) (hg : Gl X x) (hm : X.mg x = some (.ref f)) (hk : PySem.W.keepIn X.K (.ref f) = true) (hb : L2.Binds X.K fd ps ds) (hd : Vals dvs ds) (hx : Passes CX X E)
    (ha : PA1 X (e :: es) ta) (hdb : (x == ("__debug__" : Str)) = false := by decide) (he : starEach (e :: es) X.env = (false, eval e X.env) :: starEach es X.env := by rfl) (hpl : (backTo pos (starEach es X.env)).any (·.1) = false := by rfl) :
    PE1 X (.Call (.Name x p) (e :: es) [] pos) (tCall sp dvs E ta) := by
  intro pins s σ H Q I h
  refine wpAny_Call_Name_kw (ld_glob I hg hm ?_ hdb)
  refine PySem.W.callWith_K (h₀ := X.base) I.ok.mod.kin hk (thn (ha pos pins s σ H _ I h) fun us s1 ⟨n1, vs, H1, I1, r, q⟩ => ⟨I1.kIn, ?_⟩) he hpl
  exact later n1 (run_fn F hr hb hd hx I1 r q)
theorem pe1_ix {r : R2} {a b : Expr} {tb : TE} (hr : IxR X r) (ha : PE X a t) (hb : PE1 X b tb) (hs : PlainIx b) : PE1 X (.Subscript a b pos) (tOp r t tb) := by
  intro pins s σ H Q I h
  refine Subscript_ (thn (ha.run pins s σ H _ I h) fun v s1 ⟨x, H1, I1, r1, q1⟩ => thn (hb pins s1 σ H1 _ I1 q1) fun u s2 ⟨n2, y, H2, I2, r2, q2⟩ => ?_)
  exact later n2 (hr a b pins s2 σ H2 x y v u Q I2 r1 r2 q2 (hs _ _))
theorem pe_repl1 (ho : PE1 X o to) (hyz : (y == z) = false := by decide)
    (hst : starEach [.Constant (.str y) j c0, .Constant (.str z) k c1] X.env = [(false, eval (.Constant (.str y) j c0) X.env), (false, eval (.Constant (.str z) k c1) X.env)] := by rfl)
    (hbase : attributeBase o "replace" X.env (eval o X.env) = eval o X.env := by rfl) (hline : (apos.endLine == pos.line) = true := by rfl) :
    PE X (.Call (.Attribute o "replace" apos) [.Constant (.str y) j c0, .Constant (.str z) k c1] [] pos) (CwR.tReplC to y z) := by
  refine ⟨fun pins s σ H Q I h => Call_method2 hbase hst hline (thn (ho pins s σ H _ I h) fun v s1 ⟨n1, v', H1, I1, r1, x, ex, hb, q⟩ => ?_)⟩
  subst ex
  obtain ⟨tx, rfl⟩ := r1
  have t0 : s1.toks ≠ 0 := by omega
  have t1 : s1.toks + 1 ≠ 0 := by omega
  have t2 : s1.toks ≠ s1.toks + 1 := by omega
  refine ⟨"str", _, F.plainAttrs_str, F.slot_str_replace, F.type_str_replace, typeIs_str _ _ _, nofun, Calls.callWith_builtin rfl (Calls.evalArgs_plain (Calls.spliced_cons (Calls.Constant_str (Calls.spliced_cons (Calls.Constant_str (Calls.spliced_nil ?_))))))⟩
  exact SC.replace t0 t1 t2 hyz hb fun t' k => ⟨.str (Txt.replace x y z), H1, I1.tok k, ⟨t', rfl⟩, q⟩
end
section
variable {X : Cx} {T : List (Addr × Str)} {E : XK} {e o a b : Expr} {es : List Expr} {pos p : Pos} {ma mb me : EnvD → Res D} {mr : EnvD → Res (List D)}
theorem d1_int {i : Int} {j : Nat} : PE1 X (.Constant (.int i) j pos) (tD (dc X T E) (mC (.int i))) := pe1_imp pe1_int fun σ H Q ⟨M, ρ, st, q⟩ => q _ H (.refl st.tab) (by simp only [RD])
theorem d1_str {s : List Nat} {j : Nat} (hk : okSB s = true := by rfl) : PE1 X (.Constant (.str ⟨s.toArray⟩) j pos) (tD (dc X T E) (mC (.str s))) := pe1_imp pe1_str fun σ H Q ⟨M, ρ, st, q⟩ => q _ H (.refl st.tab) (by simp only [RD]; exact ⟨trivial, okS_of hk⟩)
theorem cons_imp {m : EnvD → Res D} {r : EnvD → Res (List D)} : ∀ σ H Q, tAD (dc X T E) (aCons m r) σ H Q → tCons (tD (dc X T E) m) (tAD (dc X T E) r) σ H Q := fun σ H Q ⟨M, ρ, st, q⟩ => by
  refine ⟨M, ρ, st, (aft.bind (Rel := RD X.K) q).imp fun v H1 ⟨d, _, e1, r1, q1⟩ => ⟨M, ρ, st.ext e1, (aft.bind (Rel := RDs X.K) q1).imp fun vs H2 ⟨ds, _, e2, r2, q2⟩ => ?_⟩⟩
  exact q2 _ H2 (.refl e2.tab) (.cons (r1.ext (hide_mono M e2.old)) r2)
theorem da1_head (ha : PE1 X e (tD (dc X T E) me)) (hr : PA X es (tAD (dc X T E) mr)) (hs : starEach (e :: es) X.env = (false, eval e X.env) :: starEach es X.env := by rfl) : PA1 X (e :: es) (tAD (dc X T E) (aCons me mr)) := pa1_imp (pa1_head ha hr hs) cons_imp
theorem da1_tail (ha : PE X e (tD (dc X T E) me)) (hr : PA1 X es (tAD (dc X T E) mr)) (hs : starEach (e :: es) X.env = (false, eval e X.env) :: starEach es X.env := by rfl) : PA1 X (e :: es) (tAD (dc X T E) (aCons me mr)) := pa1_imp (pa1_tail ha hr hs) cons_imp
theorem d1_call {f : List D → Res D} {x : Str} {k n : Nat} (F : Fn X.prog X.w X.K X.mg X.base T x k n f) (hr : Room k X.A) (hg : Gl X x) (hx : Passes (L2N.CX X.prog X.w) X E) (ha : PA1 X (e :: es) (tAD (dc X T E) mr)) (hn : ∀ ρ ds, mr ρ = .ok ds → ds.length = n)
    (hdb : (x == ("__debug__" : Str)) = false := by decide) (he : starEach (e :: es) X.env = (false, eval e X.env) :: starEach es X.env := by rfl) (hpl : (backTo pos (starEach es X.env)).any (·.1) = false := by rfl) :
    PE1 X (.Call (.Name x p) (e :: es) [] pos) (tD (dc X T E) (mCall f mr)) := by
  obtain ⟨a, fd, ps, h1, h2, h3, h4, h5⟩ := F
  refine pe1_imp (pe1_call h5 hr hg h1 h2 h3 .nil hx ha (hdb := hdb) (he := he) (hpl := hpl)) fun σ H Q ⟨M, ρ, st, q⟩ => ?_
  refine ⟨M, ρ, st, (aft.bind (Rel := RDs X.K) q).imp fun vs H1 ⟨ds, e0, e1, r1, q1⟩ => ?_⟩
  rw [List.append_nil]
  exact ⟨M, ds, hn ρ ds e0, e1.tab, st.hid.ext e1.old, r1, q1⟩
theorem d1_ix (ha : PE X a (tD (dc X T E) ma)) (hb : PE1 X b (tD (dc X T E) mb)) (hs : PlainIx b) : PE1 X (.Subscript a b pos) (tD (dc X T E) (m2 ixD ma mb)) := pe1_imp (pe1_ix ix_seq ha hb hs) (op2_imp a_ix)
/-- s.replace(y, z) -/
def replF (y z : List Nat) : D → Res D
  | .str s => if okSB (StrLaws.replL y z s) = true ∧ s.length + (s.length + 1) * z.length ≤ 16777216 then .ok (.str (StrLaws.replL y z s)) else .stk
  | _ => .stk
theorem d_repl {y z : List Nat} {j k : Nat} {c0 c1 apos : Pos} (ho : PE1 X o (tD (dc X T E) me)) (hy : 1 ≤ y.length) (hyz : ((⟨y.toArray⟩ : Str) == ⟨z.toArray⟩) = false := by decide)
    (hst : starEach [.Constant (.str ⟨y.toArray⟩) j c0, .Constant (.str ⟨z.toArray⟩) k c1] X.env = [(false, eval (.Constant (.str ⟨y.toArray⟩) j c0) X.env), (false, eval (.Constant (.str ⟨z.toArray⟩) k c1) X.env)] := by rfl)
    (hbase : attributeBase o "replace" X.env (eval o X.env) = eval o X.env := by rfl) (hline : (apos.endLine == pos.line) = true := by rfl) :
    PE X (.Call (.Attribute o "replace" apos) [.Constant (.str ⟨y.toArray⟩) j c0, .Constant (.str ⟨z.toArray⟩) k c1] [] pos) (tD (dc X T E) (m1 (replF y z) me)) :=
  pe_imp (pe_repl1 ho hyz hst hbase hline) fun σ H Q ⟨M, ρ, st, q⟩ => by
    refine ⟨M, ρ, st, (aft.bind (Rel := RD X.K) q).imp fun v H1 ⟨a, _, e1, ra, h1⟩ => ?_⟩
    cases a with
    | str s =>
      simp only [RD] at ra
      have hq : aft (dc X T E) M H1 (RD X.K) (if okSB (StrLaws.replL y z s) = true ∧ s.length + (s.length + 1) * z.length ≤ 16777216 then .ok (.str (StrLaws.replL y z s)) else .stk) Q := h1
      obtain ⟨⟨h2, h3⟩, h4⟩ := aft_if hq
      have hl : (⟨s.toArray⟩ : Str).length = s.length := by show s.toArray.size = _; simp
      have hz : (⟨z.toArray⟩ : Str).length = z.length := by show z.toArray.size = _; simp
      have hyl : 1 ≤ (⟨y.toArray⟩ : Str).length := by show 1 ≤ y.toArray.size; simpa using hy
      have e : Txt.replace ⟨s.toArray⟩ ⟨y.toArray⟩ ⟨z.toArray⟩ = ⟨(StrLaws.replL y z s).toArray⟩ := by
        have := StrLaws.replace_list (x := ⟨s.toArray⟩) (y := ⟨y.toArray⟩) (z := ⟨z.toArray⟩) hyl
        cases hr : Txt.replace ⟨s.toArray⟩ ⟨y.toArray⟩ ⟨z.toArray⟩ with
        | mk cps =>
          rw [hr] at this
          have t2 : cps.toList = StrLaws.replL y z s := by simpa using this
          rw [← t2]
      refine ⟨_, ra.1, by rw [hl, hz]; exact h3, ?_⟩
      rw [e]
      exact h4 _ H1 (.refl e1.tab) (by simp only [RD]; exact ⟨trivial, okS_of h2⟩)
    | _ => exact h1.elim
end
end DL
namespace DL
open PySem PySem.Spec PyProof.Rows L2 LamX PySem.W
/-! ## min(xs, key=lambda x: ..) on data -/
/-- i's key is less than j's -/
def btD (mk : EnvD → Res D) (ds : List D) (i j : Nat) : Bool := match ds[i]?, ds[j]? with
  | some a, some b => decide (keyOf mk a < keyOf mk b)
  | _, _ => false
def minKF (mk : EnvD → Res D) : List D → Res D
  | [.lst ds] => if ds.all (hasKey mk) = true then (match ds[argBest (btD mk ds) (ds.length - 1)]? with
    | some d => .ok d
    | none => .stk) else .stk
  | _ => .stk
def rMinK (K : PySem.W.Frag) (T : List (Addr × Str)) (q : Str) (params : Arguments) (body : Expr) (scope : Scope) (mk : EnvD → Res D) : List V → List V → Hp → VK → Prop := fun vs zs H Q => ∃ (a : Addr) (xs : List V) (ds : List D) (M : List Addr) (f c' : Addr),
  vs = [V.ref a] ∧ zs = [V.ref f] ∧ H a = some (.lst xs) ∧ HidOk M H ∧ RDs K (hide M H) xs ds ∧ Tabs T H ∧ H f = some (LamO f c' q params body scope) ∧ H c' = some (CodeO c' q) ∧ (∀ d ∈ ds, hasKey mk d = true) ∧ ds ≠ [] ∧
  ∀ v H' d, ExtN H H' → Tabs T H' → ds[argBest (btD mk ds) (ds.length - 1)]? = some d → RD K (hide M H') v d → Q v H'
section
variable {X : Cx} {T : List (Addr × Str)} {E : XK} {pins : List (Addr × Obj)} {σ : L2.St} {H : Hp} {s : Shared}
/-- records of ours have turned -/
theorem Inv.movedCh {ch : List Addr} {h' : Heap} {t' : Nat} (I : Inv X pins σ H s) (k : ∀ b o, b ∉ ch → s.heap.get? b = some o → h'.get? b = some o) (hf : ∀ b ∈ ch, FpOk X pins H b) : Inv X pins σ H { s with heap := h', toks := t' } := by
  have nit : ∀ b u, H b = some u → b ∉ ch := fun b u e z => by rw [(hf b z).1] at e; cases e
  refine I.step (g' := s.gens) (d' := s.drawn) (ch := ch) (fun b hb => ?_) (fun b o _ _ hc e _ => k b o hc e) (fun b o _ _ hc e _ => ⟨o.slots, k b o hc e⟩) (fun _ _ _ _ n => n)
    (fun b o hc e => ⟨o, k b o hc e⟩) (fun _ _ e => e) (fun _ _ _ e => e) (fun b ps e => ⟨#[], by rw [e]; simp⟩) (fun m hm => ?_) (fun b u e => ?_) I.bare
  · obtain ⟨f0, f1, f2, f3, f4, f5⟩ := hf b hb
    exact ⟨f3, f1, f4, f5⟩
  · obtain ⟨o, es, ep, ho, r⟩ := hm
    exact ⟨o, es, ep, k _ o (fun z => (hf _ z).2.1 rfl) ho, r⟩
  · refine (I.hok b u e).stay (fun c v hc q => k c v ?_ q) (fun _ q => q) fun _ _ q => q
    rcases hc with z | z
    · rw [z]; exact nit b u e
    · exact nit c _ z
/-- a call that came back: what nobody tracks stands as it was -/
theorem Inv.after2 {Q : VK} {u : Value} {s' : Shared} (I : Inv X pins σ H s) (h : CE X.stack X.prog X.w H s Q u s') : ∃ v H', Inv X pins σ H' s' ∧ RelV v u ∧ Q v H' ∧ ∀ b ob, s.heap.get? b = some ob → H b = none → b ≠ X.env.locals → b ∉ X.fs → s'.heap.get? b = some ob ∧ H' b = none := by
  obtain ⟨v, H', os, bare, un, hok, r, q⟩ := h
  obtain ⟨hh, g, d, t, os'⟩ := s'
  obtain rfl : os' = s.os := os
  refine ⟨v, H', I.call (h' := hh) (g' := g) (d' := d) (t' := t) (ch := []) un hok bare (fun b z => absurd z (by simp)), r, q, fun b ob e n nL nf => ?_⟩
  by_cases hb : b ∈ frs X.stack
  · rcases List.mem_cons.mp (I.stkSub b hb) with z | z
    · exact absurd z nL
    · exact absurd z nf
  · exact ⟨un.keep b ob e n hb (by simp), un.free b ob e n (by simp)⟩
theorem key_call2 {x q : Str} {params : Arguments} {body : Expr} {scope : Scope} {f c' : Addr} {k : Nat} {A : Around} {mk : EnvD → Res D} {M : List Addr} {u : Value} {v : V} {d : D} (S : FnScope [x] [x] scope)
    (hbind : ∀ (u pm c' ctv : Value), bindArgs (PySem.W.kla_fn "<lambda>" q params body scope [] pm c' ctv) ⟨[u], []⟩ = pure [(x, u)]) (hf : H f = some (LamO f c' q params body scope)) (hc : H c' = some (CodeO c' q)) (hr : Room (k + 1) A) (e0 : Env0 X.prog X.w X.K X.mg X.base A X.stack s H) (r : RelV v u)
    (hbody : ∀ (A : Around) (outer : List Env) (s : Shared) (H : Hp), Room k (A.deeper (envOfC q scope s.heap.objs.size f (.ref c'))) → PE (cxOf C8.CX0 X.prog X.w X.K X.mg X.base [x] q scope f (.ref c') A outer s H C8.E0) body (tD ⟨X.K, T, C8.E0⟩ mk))
    (I : Inv X pins σ H s) (tb : Tabs T H) (hid : HidOk M H) (rd : RD X.K (hide M H) v d) (hk : hasKey mk d = true) {Q : Value → Shared → Prop} {E' : Value → Shared → Prop}
    (h : ∀ t H2 s2, ExtN H H2 → Tabs T H2 → Inv X pins σ H2 s2 → (∀ b ob, s.heap.get? b = some ob → H b = none → b ≠ X.env.locals → b ∉ X.fs → s2.heap.get? b = some ob ∧ H2 b = none) → Q (.int (keyOf mk d) t) s2) :
    wpAny (model X.prog X.w) A (call (.ref f) [u]) Q E' s := by
  have rc := lam1_run (Q := fun v H2 => v = .int (keyOf mk d) ∧ ExtN H H2 ∧ Tabs T H2) S (fun u pm ctv => hbind u pm _ ctv) hf hc hr e0 r hbody (by
    refine ⟨M, [some d], ⟨tb, hid, rfl, fun i d' h => ?_⟩, ?_⟩
    · match i, h with
      | 0, h => cases h; exact ⟨v, rfl, rd⟩
      | i + 1, h => simp at h
    · rw [hasKey_eq hk]
      intro b H2 e2 rb
      simp only [RD] at rb
      exact ⟨rb, e2.old, e2.tab⟩)
  refine wpAny_call (codeAny_mono rc fun r s2 hq => ?_)
  match r, hq with
  | .error e, hq => exact (show False from hq).elim
  | .ok (.ret u), hq =>
    obtain ⟨v2, H2, I2, rv, ⟨e, x2, t2⟩, kp⟩ := Inv.after2 I hq
    subst e
    obtain ⟨t, rfl⟩ := rv
    exact h t H2 s2 x2 t2 I2 kp
  | .ok .next, hq => exact hq.elim
  | .ok .brk, hq => exact hq.elim
  | .ok .cont, hq => exact hq.elim
/-- the walk over the list at a, as it stands at each turn -/
abbrev StL (a it : Addr) (xs : List V) (i : Nat) (s : Shared) : Prop := s.heap.IsListIter it a i ∧ ∃ its, Vals xs its ∧ s.heap.IsList a its.toArray
theorem walk_l {prog : Program} {w : World} {A : Around} (hh : A.handled = none) (it a : Addr) (hne : a ≠ it) (xs : List V) : WalksS prog w A it [it, a] [it] (fun g g' => g' = g) xs.length (fun i u => ∃ x, xs[i]? = some x ∧ RelV x u) (StL a it xs) where
  sub := fun b hb => by simp at hb; simp [hb]
  grefl := fun _ => rfl
  gtrans := fun _ _ _ h1 h2 => h2.trans h1
  frame := fun i s h' tk ⟨h1, its, h2, h3⟩ _ hk => ⟨h1.at fun o e => hk it (by simp) o e, its, h2, h3.at fun o e => hk a (by simp) o e⟩
  item := fun i s Q E hi ⟨h1, its, h2, h3⟩ hQ => by
    obtain ⟨u, hu, ru⟩ := h2.get (List.getElem?_eq_getElem hi)
    refine wpAny_pyNext_list_item h1 h3 (x := u) (by simpa using hu) fun h' hit' hs' => ?_
    exact hQ u _ ⟨_, List.getElem?_eq_getElem hi, ru⟩ ⟨hit', its, h2, h3.extBut hs'.extBut hne⟩ ⟨fun b o hb e => hs'.extBut b o (fun h => hb (by simp [h])) e, rfl, rfl, rfl, Nat.le_refl _⟩
  done := fun s Q E ⟨h1, its, h2, h3⟩ hQ => wpAny_pyNext_list_end hh h1 h3 (by have := h2.length; simp; omega) fun h' he' => hQ _ ⟨fun b o hb e => he' b o (fun h => hb (by simp [h])) e, rfl, rfl, rfl, Nat.le_refl _⟩
  self := fun i s Q E ⟨h1, _⟩ hQ => wpAny_pyIter_listiter h1 hQ
theorem cr_minK {x q : Str} {params : Arguments} {body : Expr} {scope : Scope} {k : Nat} {mk : EnvD → Res D} (S : FnScope [x] [x] scope) (hbind : ∀ (u pm c' ctv : Value), bindArgs (PySem.W.kla_fn "<lambda>" q params body scope [] pm c' ctv) ⟨[u], []⟩ = pure [(x, u)]) (hr : Room (k + 3) X.A)
    (hbody : ∀ (f c' : Addr) (A : Around) (outer : List Env) (s : Shared) (H : Hp), Room k (A.deeper (envOfC q scope s.heap.objs.size f (.ref c'))) → PE (cxOf C8.CX0 X.prog X.w X.K X.mg X.base [x] q scope f (.ref c') A outer s H C8.E0) body (tD ⟨X.K, T, C8.E0⟩ mk)) :
    CallRK X (.builtin "min") [Str.ofString "key"] (rMinK X.K T q params body scope mk) := by
  intro pins s σ H vs zs us ws Q I r rz h
  obtain ⟨a, xs, ds, M, f, c', rfl, rfl, hs, hid, rd, tb, hf, hc, hk, hne, hq⟩ := h
  obtain ⟨its, rv, hl, hz⟩ := I.list (SqL.of hs)
  obtain rfl := Vals.ref1 r
  obtain ⟨w1, rfl, e1⟩ := vals1 rz
  obtain rfl : w1 = Value.ref f := e1
  have hdl : ds.length = xs.length := rd.len.symm
  refine call_min_walkK (wpAny_pyIter_list hl.isList ?_)
  have fI : FpOk X pins H s.heap.objs.size := I.fpOk (Nat.le_refl _) (I.hok.fresh (Nat.le_refl _))
  have I2 : Inv X pins σ H { s with heap := s.heap.push { cls := .type "list_iterator", data := .fields #[.ref a, .int 0 0] } } := I.kept (t' := s.toks) fun b u e => Heap.get?_push_of_some _ e
  have hal : a < s.heap.objs.size := Heap.lt_size hl.isList.choose_spec.1
  have hit : (s.heap.push { cls := .type "list_iterator", data := .fields #[.ref a, .int 0 0] }).IsListIter s.heap.objs.size a 0 := ⟨_, Heap.get?_push_size _ rfl, rfl, rfl⟩
  have hl2 : (s.heap.push { cls := .type "list_iterator", data := .fields #[.ref a, .int 0 0] }).IsList a its.toArray := hl.isList.at fun o e => Heap.get?_push_of_some _ e
  have hsz : (s.heap.push { cls := .type "list_iterator", data := .fields #[.ref a, .int 0 0] }).objs.size = s.heap.objs.size + 1 := Heap.size_push ..
  generalize s.heap.push { cls := .type "list_iterator", data := .fields #[.ref a, .int 0 0] } = g at I2 hit hl2 hsz
  generalize s.heap.objs.size = it at fI hit hsz hal
  have fS : FpOk X pins H g.objs.size := I2.fpOk (Nat.le_refl _) (I2.hok.fresh (Nat.le_refl _))
  have hlen : 0 < xs.length := by rw [← hdl]; exact List.length_pos_iff.mpr hne
  refine ⟨it, [it, a], [it], _, xs.length, _, StL a it xs, fun s' => ∃ H', ExtN H H' ∧ Tabs T H' ∧ Inv X pins σ H' s' ∧ FpOk X pins H' g.objs.size ∧ FpOk X pins H' it, fun i kv s' => ∃ d t, ds[i]? = some d ∧ kv = .int (keyOf mk d) t, btD mk ds, rfl, walk_l hr.in1.hd it a (Nat.ne_of_lt hal) xs, ⟨hit, its, rv, hl2⟩, ?_, hlen, ?_, ⟨H, .refl _, tb, I2, fS, fI⟩, ?_⟩
  · intro b hb
    have e' : b = it ∨ b = a := by simpa using hb
    show b < g.objs.size
    rw [hsz]
    rcases e' with e' | e' <;> rw [e']
    · exact Nat.lt_succ_self _
    · exact Nat.lt_succ_of_lt hal
  · refine ⟨fun s1 s2 ⟨H', x', t', I', p1, p2⟩ m => ?_, fun i kv s1 s2 hv _ => hv, fun i v s1 o Q1 E1 hi hP hJ hst hSo hQ => ?_, fun i j ki kj s1 Q1 E1 _ hvi hvj hQ => ?_⟩
    · obtain ⟨hp1, g1, d1, tk1, os1⟩ := s1
      obtain ⟨hp2, g2, d2, tk2, os2⟩ := s2
      obtain ⟨m1, m2, m3, m4, m5⟩ := m
      obtain rfl : g2 = g1 := m2
      obtain rfl : d2 = d1 := m3
      obtain rfl : os2 = os1 := m4
      exact ⟨H', x', t', Inv.movedCh (t' := tk2) I' m1 (fun b hb => by
        have e' : b = g.objs.size ∨ b = it := by simpa using hb
        rcases e' with rfl | rfl
        · exact p1
        · exact p2), p1, p2⟩
    · obtain ⟨H', x', t', I', p1, p2⟩ := hJ
      obtain ⟨y, hy, ry⟩ := hP
      have hd : ∃ d, ds[i]? = some d ∧ RD X.K (hide M H) y d := by
        have hi' : i < ds.length := by rw [hdl]; exact hi
        obtain ⟨y', hy', ryd⟩ := rd.get (List.getElem?_eq_getElem hi')
        rw [hy] at hy'; cases hy'
        exact ⟨_, List.getElem?_eq_getElem hi', ryd⟩
      obtain ⟨d, hdi, ryd⟩ := hd
      have e0 : Env0 X.prog X.w X.K X.mg X.base X.A.in1 X.stack s1 H' := I'.env0.in1
      refine key_call2 S hbind (x' _ _ hf (fun ps z => by unfold LamO at z; cases z)) (x' _ _ hc codeO_ne) hr.in1 e0 ry (fun A outer s H hr' => hbody f c' A outer s H (hr'.mono (Nat.le_succ _))) I' t' (hid.ext x') (ryd.ext (hide_mono M x')) (hk d (List.mem_of_getElem? hdi)) fun t H2 s2 x2 t2 J2 kp => ?_
      obtain ⟨hit1, _⟩ := hst
      obtain ⟨oi, hoi, ri⟩ := hit1
      have kI := kp it oi hoi p2.1 p2.2.1 p2.2.2.1
      have kS := kp g.objs.size o hSo p1.1 p1.2.1 p1.2.2.1
      have ha2 : H2 a = some (.lst xs) := x2 _ _ (x' _ _ hs (fun ps z => by cases z)) (fun ps z => by cases z)
      obtain ⟨its2, rv2, hl3, _⟩ := J2.list (SqL.of ha2)
      exact hQ _ _ ⟨H2, x'.trans x2, t2, J2, FpOk.step p1 kS.2, FpOk.step p2 kI.2⟩ ⟨⟨oi, kI.1, ri⟩, its2, rv2, hl3.isList⟩ kS.1 ⟨d, t, hdi, rfl⟩ fun j k' h => h
    · obtain ⟨di, ti, hi, rfl⟩ := hvi
      obtain ⟨dj, tj, hj, rfl⟩ := hvj
      have e : btD mk ds i j = decide (keyOf mk di < keyOf mk dj) := by unfold btD; rw [hi, hj]
      rw [e] at hQ
      exact P.lt_int hQ
  · rintro v s' ⟨y, hy, ry⟩ ⟨H', x', t', I', p1, p2⟩
    have hi' : argBest (btD mk ds) (xs.length - 1) < ds.length := by
      have := (List.getElem?_eq_some_iff.mp hy).1
      omega
    obtain ⟨y', hy', ryd⟩ := rd.get (List.getElem?_eq_getElem hi')
    rw [hy] at hy'; cases hy'
    exact ⟨y, H', I', ry, hq y H' _ x' t' (by rw [hdl]; exact List.getElem?_eq_getElem hi') (ryd.ext (hide_mono M x'))⟩
theorem d_minK {e : Expr} {x : Str} {params : Arguments} {body : Expr} {scope : Scope} {k : Nat} {mk : EnvD → Res D} {mr : EnvD → Res (List D)} {p pos lpos kpos : Pos} (hg : Gl X "min") (hm : X.mg "min" = none) (ha : PA X [e] (tAD (dc X T E) mr)) (lt : LamT T X.mg X.base X.env.code (X.env.qual ++ "<lambda>"))
    (S : FnScope [x] [x] scope) (hdef : defaultsOf params X.env = ([], [])) (hbind : ∀ (u pm c' ctv : Value), bindArgs (PySem.W.kla_fn "<lambda>" (X.env.qual ++ "<lambda>") params body scope [] pm c' ctv) ⟨[u], []⟩ = pure [(x, u)]) (hr : Room (k + 3) X.A)
    (hbody : ∀ (f c' : Addr) (A : Around) (outer : List Env) (s : Shared) (H : Hp), Room k (A.deeper (envOfC (X.env.qual ++ "<lambda>") scope s.heap.objs.size f (.ref c'))) → PE (cxOf C8.CX0 X.prog X.w X.K X.mg X.base [x] (X.env.qual ++ "<lambda>") scope f (.ref c') A outer s H C8.E0) body (tD ⟨X.K, T, C8.E0⟩ mk))
    (he : backTo pos (starEach [e] X.env) = (false, eval e X.env) :: backTo pos (starEach [] X.env) := by rfl) (hpl : (backTo pos (starEach [e] X.env)).any (·.1) = false := by rfl)
    (hall : (backToKw pos (keywordEach [⟨some "key", .Lambda params body scope lpos, kpos⟩] X.env)).all (·.1.isSome) = true := by rfl) (hnone : (backToKw pos (keywordEach [⟨some "key", .Lambda params body scope lpos, kpos⟩] X.env)).any (·.1.isNone) = false := by rfl)
    (hks : (backToKw pos (keywordEach [⟨some "key", .Lambda params body scope lpos, kpos⟩] X.env)).filterMap (·.1) = [Str.ofString "key"] := by rfl) :
    PE X (.Call (.Name "min" p) [e] [⟨some "key", .Lambda params body scope lpos, kpos⟩] pos) (tD (dc X T E) (mCall (minKF mk) mr)) := by
  obtain ⟨c, P, hcode, TB, hmT, hu⟩ := lt
  refine pe_imp (pe_callBK (cr_minK (T := T) S hbind hr hbody) hg hm (by rfl) ha (pk_cons (pe_lam1 TB hcode hmT hu hdef S.nofree) pk_nil) (he := he) (hpl := hpl) (hall := hall) (hnone := hnone) (hks := hks)) fun σ H Q ⟨M, ρ, st, q⟩ => ?_
  refine ⟨M, ρ, st, (aft.bind (Rel := RDs X.K) q).imp fun vs H1 ⟨ds, e0, e1, r1, q1⟩ => ⟨e1.tab, fun f c' H2 x2 t2 hf hc => ?_⟩⟩
  unfold minKF at q1
  split at q1
  · rename_i ds
    obtain ⟨v, rfl, r2⟩ := rds1 r1
    simp only [RD] at r2
    obtain ⟨a, xs, rfl, hp, hz, hr⟩ := r2
    obtain ⟨ok, q1⟩ := aft_if q1
    have hid := st.hid.ext e1.old
    have hne : ds ≠ [] := fun e => by
      subst e
      exact q1.elim
    refine ⟨a, xs, ds, M, f, c', rfl, rfl, x2 _ _ (vis_get hp) (fun ps z => by cases z), hid.ext x2, hr.ext (hide_mono M x2), t2, hf, hc, List.all_eq_true.mp ok, hne, fun v H' d x' t' hd rv => ?_⟩
    rw [hd] at q1
    exact q1 v H' ⟨x2.trans x', t'⟩ rv
  · exact q1.elim
end
end DL
namespace DL
open PySem PySem.Spec PyProof.Rows L2 LamX
/-! ## min(xs), max(xs): one list of whole numbers -/
def minOf : List Int → Int
  | [] => 0
  | x :: xs => xs.foldl min x
def maxOf : List Int → Int
  | [] => 0
  | x :: xs => xs.foldl max x
theorem foldl_min_le : ∀ (xs : List Int) (x : Int), xs.foldl min x ≤ x ∧ (∀ y ∈ xs, xs.foldl min x ≤ y) ∧ (xs.foldl min x = x ∨ xs.foldl min x ∈ xs)
  | [], x => by simp
  | y :: xs, x => by
    obtain ⟨h1, h2, h3⟩ := foldl_min_le xs (min x y)
    rw [List.foldl_cons]
    refine ⟨by omega, fun z hz => ?_, ?_⟩
    · rcases List.mem_cons.mp hz with rfl | hz
      · omega
      · exact h2 z hz
    · rcases h3 with h | h
      · rcases (by omega : min x y = x ∨ min x y = y) with e | e
        · exact .inl (by rw [h, e])
        · exact .inr (by rw [h, e]; exact List.mem_cons_self)
      · exact .inr (List.mem_cons_of_mem _ h)
theorem foldl_max_ge : ∀ (xs : List Int) (x : Int), x ≤ xs.foldl max x ∧ (∀ y ∈ xs, y ≤ xs.foldl max x) ∧ (xs.foldl max x = x ∨ xs.foldl max x ∈ xs)
  | [], x => by simp
  | y :: xs, x => by
    obtain ⟨h1, h2, h3⟩ := foldl_max_ge xs (max x y)
    rw [List.foldl_cons]
    refine ⟨by omega, fun z hz => ?_, ?_⟩
    · rcases List.mem_cons.mp hz with rfl | hz
      · omega
      · exact h2 z hz
    · rcases h3 with h | h
      · rcases (by omega : max x y = x ∨ max x y = y) with e | e
        · exact .inl (by rw [h, e])
        · exact .inr (by rw [h, e]; exact List.mem_cons_self)
      · exact .inr (List.mem_cons_of_mem _ h)
theorem minOf_spec {ns : List Int} (h : ns ≠ []) : minOf ns ∈ ns ∧ ∀ y ∈ ns, minOf ns ≤ y := by
  cases ns with
  | nil => exact absurd rfl h
  | cons x xs =>
    obtain ⟨h1, h2, h3⟩ := foldl_min_le xs x
    refine ⟨?_, fun y hy => ?_⟩
    · rcases h3 with e | e
      · show xs.foldl min x ∈ _
        rw [e]; exact List.mem_cons_self
      · exact List.mem_cons_of_mem _ e
    · rcases List.mem_cons.mp hy with rfl | hy
      · exact h1
      · exact h2 y hy
theorem maxOf_spec {ns : List Int} (h : ns ≠ []) : maxOf ns ∈ ns ∧ ∀ y ∈ ns, y ≤ maxOf ns := by
  cases ns with
  | nil => exact absurd rfl h
  | cons x xs =>
    obtain ⟨h1, h2, h3⟩ := foldl_max_ge xs x
    refine ⟨?_, fun y hy => ?_⟩
    · rcases h3 with e | e
      · show xs.foldl max x ∈ _
        rw [e]; exact List.mem_cons_self
      · exact List.mem_cons_of_mem _ e
    · rcases List.mem_cons.mp hy with rfl | hy
      · exact h1
      · exact h2 y hy
def minLF : List D → Res D
  | [.lst ds] => (oR (asInts ds)).bind fun ns => if ns ≠ [] then .ok (.int (minOf ns)) else .stk
  | _ => .stk
def maxLF : List D → Res D
  | [.lst ds] => (oR (asInts ds)).bind fun ns => if ns ≠ [] then .ok (.int (maxOf ns)) else .stk
  | _ => .stk
section
variable {C : DC}
theorem a_minL : R1D C (rMin C.K) minLF := by
  intro M H vs ds Q tb hid r h
  unfold minLF at h
  split at h
  · obtain ⟨v, rfl, r1⟩ := rds1 r
    simp only [RD] at r1
    obtain ⟨p, us, rfl, hp, hz, hr⟩ := r1
    obtain ⟨ns, e, h⟩ := aft_oR h
    obtain ⟨hne, h⟩ := aft_if h
    rw [asInts_rds e hr] at hp
    obtain ⟨g1, g2⟩ := minOf_spec hne
    refine ⟨p, ns, rfl, .of (vis_get hp), List.length_pos_iff.mpr hne, fun m hm hle => ?_⟩
    have em : m = minOf ns := by
      have := hle _ g1
      have := g2 m hm
      omega
    rw [em]
    exact aft_int h tb
  · exact h.elim
theorem a_maxL : R1D C (rMax C.K) maxLF := by
  intro M H vs ds Q tb hid r h
  unfold maxLF at h
  split at h
  · obtain ⟨v, rfl, r1⟩ := rds1 r
    simp only [RD] at r1
    obtain ⟨p, us, rfl, hp, hz, hr⟩ := r1
    obtain ⟨ns, e, h⟩ := aft_oR h
    obtain ⟨hne, h⟩ := aft_if h
    rw [asInts_rds e hr] at hp
    obtain ⟨g1, g2⟩ := maxOf_spec hne
    refine ⟨p, ns, rfl, .of (vis_get hp), List.length_pos_iff.mpr hne, fun m hm hle => ?_⟩
    have em : m = maxOf ns := by
      have := hle _ g1
      have := g2 m hm
      omega
    rw [em]
    exact aft_int h tb
  · exact h.elim
end
end DL
namespace DL
open PySem PySem.Spec PyProof.Rows L2 LamX
abbrev R : PySem.W.OpenRow := PySem.W.OpenLaw.row PySem.Challenge.rw_dialtables_k42_whole_from_any_home
def top (i : Nat) : Stmt := PySem.Challenge.pw_dialtables_k42_whole_from_any_home.main.body.getD i (.Pass ⟨0, 0, 0, 0⟩)
def loose0 : List PySem.Str := ["DialError", "BadBook", "NoLand", "NoNumber", "BadWay", "BadText", "Doubtful", "FIGURES", "SMALL", "MOST_SIZE", "LEAST_SIZE", "MOST_BEGIN", "MOST_ROWS", "MOST_LANDS", "MOST_KIND", "is_count", "is_figures", "is_kind", "is_row", "is_land", "is_book", "need_book", "land_of", "need_land", "row_of", "has_number", "need_number", "BETWEEN", "MOST_TEXT", "need"]
def loose1 : List PySem.Str := ["pieces_of", "figures_of", "without_ahead", "far_ones", "meant", "readings_of", "readings", "read", "WAYS", "groups_of", "dialled_of", "dialled", "written", "ways_for", "shortest", "linked", "_law_cell", "_law_drawn", "_law_one_row", "_law_land", "_law_book", "_law_digits", "_law_number"]
def loose : List PySem.Str := loose0 ++ loose1
def d_is_figures : He.DefD := ⟨("is_figures", none), "is_figures", "is_figures", defArgs (top 18), defBody (top 18), defScope (top 18), [], []⟩
def d_is_count : He.DefD := ⟨("is_count", none), "is_count", "is_count", defArgs (top 17), defBody (top 17), defScope (top 17), [], []⟩
def d_is_kind : He.DefD := ⟨("is_kind", none), "is_kind", "is_kind", defArgs (top 19), defBody (top 19), defScope (top 19), [], []⟩
def d_is_row : He.DefD := ⟨("is_row", none), "is_row", "is_row", defArgs (top 20), defBody (top 20), defScope (top 20), [], []⟩
def d_is_land : He.DefD := ⟨("is_land", none), "is_land", "is_land", defArgs (top 21), defBody (top 21), defScope (top 21), [], []⟩
def d_is_book : He.DefD := ⟨("is_book", none), "is_book", "is_book", defArgs (top 22), defBody (top 22), defScope (top 22), [], []⟩
def d_need_book : He.DefD := ⟨("need_book", none), "need_book", "need_book", defArgs (top 23), defBody (top 23), defScope (top 23), [], []⟩
def d_land_of : He.DefD := ⟨("land_of", none), "land_of", "land_of", defArgs (top 24), defBody (top 24), defScope (top 24), [], []⟩
def d_need_land : He.DefD := ⟨("need_land", none), "need_land", "need_land", defArgs (top 25), defBody (top 25), defScope (top 25), [], []⟩
def d_row_of : He.DefD := ⟨("row_of", none), "row_of", "row_of", defArgs (top 26), defBody (top 26), defScope (top 26), [], []⟩
def d_has_number : He.DefD := ⟨("has_number", none), "has_number", "has_number", defArgs (top 28), defBody (top 28), defScope (top 28), [], []⟩
def d_need : He.DefD := ⟨("need", none), "need", "need", defArgs (top 33), defBody (top 33), defScope (top 33), [], []⟩
def d_pieces_of : He.DefD := ⟨("pieces_of", none), "pieces_of", "pieces_of", defArgs (top 34), defBody (top 34), defScope (top 34), [], []⟩
def d_figures_of : He.DefD := ⟨("figures_of", none), "figures_of", "figures_of", defArgs (top 35), defBody (top 35), defScope (top 35), [], []⟩
def d_without_ahead : He.DefD := ⟨("without_ahead", none), "without_ahead", "without_ahead", defArgs (top 36), defBody (top 36), defScope (top 36), [], []⟩
def d_far_ones : He.DefD := ⟨("far_ones", none), "far_ones", "far_ones", defArgs (top 37), defBody (top 37), defScope (top 37), [], []⟩
def d_meant : He.DefD := ⟨("meant", none), "meant", "meant", defArgs (top 38), defBody (top 38), defScope (top 38), [], []⟩
def d_readings_of : He.DefD := ⟨("readings_of", none), "readings_of", "readings_of", defArgs (top 39), defBody (top 39), defScope (top 39), [], []⟩
def d_readings : He.DefD := ⟨("readings", none), "readings", "readings", defArgs (top 40), defBody (top 40), defScope (top 40), [], []⟩
def d_read : He.DefD := ⟨("read", none), "read", "read", defArgs (top 41), defBody (top 41), defScope (top 41), [], []⟩
def d_need_number : He.DefD := ⟨("need_number", none), "need_number", "need_number", defArgs (top 29), defBody (top 29), defScope (top 29), [], []⟩
def d_dialled_of : He.DefD := ⟨("dialled_of", none), "dialled_of", "dialled_of", defArgs (top 45), defBody (top 45), defScope (top 45), [], []⟩
def d_dialled : He.DefD := ⟨("dialled", none), "dialled", "dialled", defArgs (top 46), defBody (top 46), defScope (top 46), [], []⟩
def d_groups_of : He.DefD := ⟨("groups_of", none), "groups_of", "groups_of", defArgs (top 44), defBody (top 44), defScope (top 44), [], []⟩
def d_written : He.DefD := ⟨("written", none), "written", "written", defArgs (top 47), defBody (top 47), defScope (top 47), [], []⟩
def d_ways_for : He.DefD := ⟨("ways_for", none), "ways_for", "ways_for", defArgs (top 48), defBody (top 48), defScope (top 48), [], []⟩
def d_shortest : He.DefD := ⟨("shortest", none), "shortest", "shortest", defArgs (top 49), defBody (top 49), defScope (top 49), [], []⟩
def d_linked : He.DefD := ⟨("linked", none), "linked", "linked", defArgs (top 50), defBody (top 50), defScope (top 50), [], []⟩
def d__law_cell : He.DefD := ⟨("_law_cell", none), "_law_cell", "_law_cell", defArgs (top 52), defBody (top 52), defScope (top 52), [], []⟩
def d__law_drawn : He.DefD := ⟨("_law_drawn", none), "_law_drawn", "_law_drawn", defArgs (top 53), defBody (top 53), defScope (top 53), [], []⟩
def d__law_one_row : He.DefD := ⟨("_law_one_row", none), "_law_one_row", "_law_one_row", defArgs (top 54), defBody (top 54), defScope (top 54), [], []⟩
def d__law_land : He.DefD := ⟨("_law_land", none), "_law_land", "_law_land", defArgs (top 55), defBody (top 55), defScope (top 55), [], []⟩
def d__law_book : He.DefD := ⟨("_law_book", none), "_law_book", "_law_book", defArgs (top 56), defBody (top 56), defScope (top 56), [], []⟩
def d__law_digits : He.DefD := ⟨("_law_digits", none), "_law_digits", "_law_digits", defArgs (top 57), defBody (top 57), defScope (top 57), [], []⟩
def d__law_number : He.DefD := ⟨("_law_number", none), "_law_number", "_law_number", defArgs (top 58), defBody (top 58), defScope (top 58), [], []⟩
def d_law : He.DefD := ⟨("law", none), "law", "law", defArgs (top 59), defBody (top 59), defScope (top 59), [], []⟩
def fn : List He.DefD := [d_is_figures, d_is_count, d_is_kind, d_is_row, d_is_land, d_is_book, d_need_book, d_land_of, d_need_land, d_row_of, d_has_number, d_need, d_pieces_of, d_figures_of, d_without_ahead, d_far_ones, d_meant, d_readings_of, d_readings, d_read, d_need_number, d_dialled_of, d_dialled, d_groups_of, d_written, d_ways_for, d_shortest, d_linked, d__law_cell, d__law_drawn, d__law_one_row, d__law_land, d__law_book, d__law_digits, d__law_number, d_law]
def fa0 : List He.Fa := [.free "range", .free "max", .free "min", .free "len", .free "isinstance", .free "str", .free "tuple", .int "MOST_LANDS" 6, .free "all", .free "zip", .int "MOST_ROWS" 8, .free "set", .str "FIGURES" "0123456789", .int "MOST_BEGIN" 4, .int "MOST_SIZE" 12, .int "LEAST_SIZE" 3, .free "sum", .free "int", .free "bool", .int "MOST_KIND" 8, .str "SMALL" "abcdefghijklmnopqrstuvwxyz", .free "sorted", .int "MOST_TEXT" 60, .str "BETWEEN" " -./()", .free "any", .free "enumerate", .glo "WAYS", .glo "is_figures", .glo "is_count", .glo "is_kind"]
def fa1 : List He.Fa := [.glo "is_row", .glo "is_land", .glo "is_book", .glo "need_book", .glo "land_of", .glo "need_land", .glo "row_of", .glo "has_number", .glo "need", .glo "pieces_of", .glo "figures_of", .glo "without_ahead", .glo "far_ones", .glo "meant", .glo "readings_of", .glo "readings", .glo "read", .glo "need_number", .glo "dialled_of", .glo "dialled", .glo "groups_of", .glo "written", .glo "ways_for", .glo "shortest", .glo "linked", .glo "_law_cell", .glo "_law_drawn", .glo "_law_one_row", .glo "_law_land", .glo "_law_book"]
def fa2 : List He.Fa := [.glo "_law_digits", .glo "_law_number", .glo "law"]
def fa : List He.Fa := fa0 ++ fa1 ++ fa2
abbrev q_shortest : He.Defn × Str := (("shortest", none), (("shortest" : Str) ++ ".<locals>.") ++ "<lambda>")
def tq : List (He.Defn × Str) := [q_shortest]
def csN : List String := []
def ws_WAYS : List (List Nat) := [[112, 108, 97, 105, 110], [102, 97, 114], [104, 111, 109, 101], [110, 101, 97, 114]]
def zs_WAYS : List PySem.Str := ["plain", "far", "home", "near"]
def gtB (K : PySem.W.Frag) : Bool := He.tupB K "WAYS" (zs_WAYS.map He.Dv.str)
def exB (K : PySem.W.Frag) : Bool := clsXB csN K && (decide ((tq.map fun p => (He.cT K p.1).2).Nodup) && gtB K)
abbrev hk : PySem.W.Hook := He.hookX 4 fa fn [] (tq.map (·.1)) exB
def ob (s : PySem.W.SharedT) : He.AlX := He.obsX 4 fa fn [] (tq.map (·.1)) exB (HandSHeadRun.getT s)
theorem ob_eq (s : PySem.W.SharedT) : ob s = hk.obs s.abs := He.obsX_eq (HandSHeadRun.getT_eq s)
/-! what the defs do, on data -/
def m_is_figures : EnvS → Out := sRet [] (mAnd (m1 (isiF "str") (mVar 0)) (mAnd (mChain leD leD (mVar 1) (mCall lenF (aCons (mVar 0) (aNil))) (mVar 2)) (mCall allF (aCons (mOfL (fLc [3] (.nm 3) (iOf iterS (mVar 0)) (bYes) (m2 inD (mVar 3) (mC (.str [48, 49, 50, 51, 52, 53, 54, 55, 56, 57]))))) (aNil)))))
def den_is_figures : List D → Res D := runB 4 3 m_is_figures
def m_is_count : EnvS → Out := sRet [] (mAnd (m1 (isiF "int") (mVar 0)) (mAnd (mNot (m1 (isiF "bool") (mVar 0))) (mChain leD leD (mVar 1) (mVar 0) (mVar 2))))
def den_is_count : List D → Res D := runB 3 3 m_is_count
def m_is_kind : EnvS → Out := sRet [] (mAnd (m1 (isiF "str") (mVar 0)) (mAnd (mChain leD leD (mC (.int 1)) (mCall lenF (aCons (mVar 0) (aNil))) (mC (.int 8))) (mCall allF (aCons (mOfL (fLc [1] (.nm 1) (iOf iterS (mVar 0)) (bYes) (m2 inD (mVar 1) (mC (.str [97, 98, 99, 100, 101, 102, 103, 104, 105, 106, 107, 108, 109, 110, 111, 112, 113, 114, 115, 116, 117, 118, 119, 120, 121, 122]))))) (aNil)))))
def den_is_kind : List D → Res D := runB 2 1 m_is_kind
def m_is_row : EnvS → Out := sSeq (sIf [] (bOr (bNot (mB (m1 (isiF "tuple") (mVar 0)))) (mB (m2 neD (mCall lenF (aCons (mVar 0) (aNil))) (mC (.int 4))))) (sRet [] (mC (.bl false))) (sNil))
      (sSeq (sIf [] (bOr (bNot (mB (mCall den_is_kind (aCons (m2 ixD (mVar 0) (mC (.int 0))) (aNil))))) (bNot (mB (mCall den_is_figures (aCons (m2 ixD (mVar 0) (mC (.int 1))) (aCons (mC (.int 0)) (aCons (mC (.int 4)) (aNil)))))))) (sRet [] (mC (.bl false))) (sNil))
      (sSeq (sIf [] (bOr (bNot (mB (mCall den_is_count (aCons (m2 ixD (mVar 0) (mC (.int 2))) (aCons (mCall maxF (aCons (mC (.int 3)) (aCons (m2 addD (mCall lenF (aCons (m2 ixD (mVar 0) (mC (.int 1))) (aNil))) (mC (.int 1))) (aNil)))) (aCons (mC (.int 12)) (aNil))))))) (bNot (mB (m1 (isiF "tuple") (m2 ixD (mVar 0) (mC (.int 3))))))) (sRet [] (mC (.bl false))) (sNil))
      (sRet [] (mAnd (m2 neD (m2 ixD (mVar 0) (mC (.int 3))) (mTup (aNil))) (mAnd (mCall allF (aCons (mOfL (fLc [1] (.nm 1) (iOf iterT (m2 ixD (mVar 0) (mC (.int 3)))) (bYes) (mCall den_is_count (aCons (mVar 1) (aCons (mC (.int 1)) (aCons (mC (.int 12)) (aNil))))))) (aNil))) (m2 eqD (mCall sumF (aCons (m2 ixD (mVar 0) (mC (.int 3))) (aNil))) (m2 ixD (mVar 0) (mC (.int 2)))))))))
def den_is_row : List D → Res D := runB 2 1 m_is_row
def m_is_land : EnvS → Out := sSeq (sIf [] (bOr (bNot (mB (m1 (isiF "tuple") (mVar 0)))) (bOr (mB (m2 neD (mCall lenF (aCons (mVar 0) (aNil))) (mC (.int 4)))) (bOr (bNot (mB (mCall den_is_figures (aCons (m2 ixD (mVar 0) (mC (.int 0))) (aCons (mC (.int 1)) (aCons (mC (.int 3)) (aNil))))))) (mB (m2 eqD (m2 ixD (m2 ixD (mVar 0) (mC (.int 0))) (mC (.int 0))) (mC (.str [48]))))))) (sRet [] (mC (.bl false))) (sNil))
      (sSeq (sIf [] (bOr (bNot (mB (mCall den_is_figures (aCons (m2 ixD (mVar 0) (mC (.int 1))) (aCons (mC (.int 1)) (aCons (mC (.int 4)) (aNil))))))) (bOr (bNot (mB (mCall den_is_figures (aCons (m2 ixD (mVar 0) (mC (.int 2))) (aCons (mC (.int 0)) (aCons (mC (.int 2)) (aNil))))))) (bNot (mB (m1 (isiF "tuple") (m2 ixD (mVar 0) (mC (.int 3)))))))) (sRet [] (mC (.bl false))) (sNil))
      (sSeq (sIf [] (bOr (bNot (mB (mChain leD leD (mC (.int 1)) (mCall lenF (aCons (m2 ixD (mVar 0) (mC (.int 3))) (aNil))) (mC (.int 8))))) (bNot (mB (mCall allF (aCons (mOfL (fLc [1] (.nm 1) (iOf iterT (m2 ixD (mVar 0) (mC (.int 3)))) (bYes) (mCall den_is_row (aCons (mVar 1) (aNil))))) (aNil)))))) (sRet [] (mC (.bl false))) (sNil))
      (sRet [] (m2 eqD (mCall lenSetF (aCons (mOfL (fLc [1] (.nm 1) (iOf iterT (m2 ixD (mVar 0) (mC (.int 3)))) (bYes) (mSl (mVar 1) (oSome (mC (.int 1))) (oSome (mC (.int 3)))))) (aNil))) (mCall lenF (aCons (m2 ixD (mVar 0) (mC (.int 3))) (aNil)))))))
def den_is_land : List D → Res D := runB 2 1 m_is_land
def m_is_book : EnvS → Out := sSeq (sIf [] (bOr (bNot (mB (m1 (isiF "tuple") (mVar 0)))) (bNot (mB (mChain leD leD (mC (.int 1)) (mCall lenF (aCons (mVar 0) (aNil))) (mC (.int 6)))))) (sRet [] (mC (.bl false))) (sNil))
      (sSeq (sIf [] (bNot (mB (mCall allF (aCons (mOfL (fLc [2] (.nm 2) (iOf iterT (mVar 0)) (bYes) (mCall den_is_land (aCons (mVar 2) (aNil))))) (aNil))))) (sRet [] (mC (.bl false))) (sNil))
      (sSeq (sAsg [] 1 (mOfL (fLc [2] (.nm 2) (iOf iterT (mVar 0)) (bYes) (m2 ixD (mVar 2) (mC (.int 0))))))
      (sRet [] (mCall allF (aCons (mOfL (fLc [3, 4] (.tp [.nm 3, .nm 4]) (iOfL zipF (aCons (mSl (mVar 1) (oNone) (oSome (m1 negD (mC (.int 1))))) (aCons (mSl (mVar 1) (oSome (mC (.int 1))) (oNone)) (aNil)))) (bYes) (mAnd (m2 ltD (mVar 3) (mVar 4)) (mNot (mS1 startsS (mVar 4) (mVar 3)))))) (aNil))))))
def den_is_book : List D → Res D := runB 5 1 m_is_book
def m_need_book : EnvS → Out := sIf [] (bNot (mB (mCall den_is_book (aCons (mVar 0) (aNil))))) (sNever) (sNil)
def den_need_book : List D → Res D := runB 1 1 m_need_book
def m_land_of : EnvS → Out := sSeq (sAsg [] 2 (mOfL (fLc [3] (.nm 3) (iOf iterT (mVar 0)) (mB (m2 eqD (m2 ixD (mVar 3) (mC (.int 0))) (mVar 1))) (mVar 3))))
      (sRet [] (mIf (mB (m2 neD (mVar 2) (mLst (aNil)))) (m2 ixD (mVar 2) (mC (.int 0))) (mC .non)))
def den_land_of : List D → Res D := runB 4 2 m_land_of
def m_need_land : EnvS → Out := sSeq (sDrop [] (mCall den_need_book (aCons (mVar 0) (aNil))))
      (sIf [] (bOr (bNot (mB (m1 (isiF "str") (mVar 1)))) (mB (m2 isD (mCall den_land_of (aCons (mVar 0) (aCons (mVar 1) (aNil)))) (mC .non)))) (sNever) (sNil))
def den_need_land : List D → Res D := runB 2 2 m_need_land
def m_row_of : EnvS → Out := sSeq (sAsg [] 2 (mC .non))
      (sSeq (sFor [] (.nm 3) (iOf iterT (m2 ixD (mVar 0) (mC (.int 3)))) (sIf [] (bAnd (mB (m2 eqD (mCall lenF (aCons (mVar 1) (aNil))) (m2 ixD (mVar 3) (mC (.int 2))))) (mB (mS1 startsS (mVar 1) (m2 ixD (mVar 3) (mC (.int 1)))))) (sIf [] (bOr (mB (m2 isD (mVar 2) (mC .non))) (mB (m2 gtD (mCall lenF (aCons (m2 ixD (mVar 3) (mC (.int 1))) (aNil))) (mCall lenF (aCons (m2 ixD (mVar 2) (mC (.int 1))) (aNil)))))) (sAsg [] 2 (mVar 3)) (sNil)) (sNil)))
      (sRet [] (mVar 2)))
def den_row_of : List D → Res D := runB 4 2 m_row_of
def m_has_number : EnvS → Out := sSeq (sIf [] (bOr (bNot (mB (m1 (isiF "tuple") (mVar 1)))) (bOr (mB (m2 neD (mCall lenF (aCons (mVar 1) (aNil))) (mC (.int 2)))) (bNot (mB (m1 (isiF "str") (m2 ixD (mVar 1) (mC (.int 0)))))))) (sRet [] (mC (.bl false))) (sNil))
      (sSeq (sAsg [] 2 (mCall den_land_of (aCons (mVar 0) (aCons (m2 ixD (mVar 1) (mC (.int 0))) (aNil)))))
      (sRet [] (mAnd (m2 isNotD (mVar 2) (mC .non)) (mAnd (mCall den_is_figures (aCons (m2 ixD (mVar 1) (mC (.int 1))) (aCons (mC (.int 3)) (aCons (mC (.int 12)) (aNil))))) (m2 isNotD (mCall den_row_of (aCons (mVar 2) (aCons (m2 ixD (mVar 1) (mC (.int 1))) (aNil)))) (mC .non))))))
def den_has_number : List D → Res D := runB 3 2 m_has_number
def m_need : EnvS → Out := sIf [] (bNot (mB (mVar 0))) (sNever) (sNil)
def den_need : List D → Res D := runB 1 1 m_need
def m_pieces_of : EnvS → Out := sSeq (sDrop [] (mCall den_need (aCons (mAnd (m1 (isiF "str") (mVar 0)) (m2 leD (mCall lenF (aCons (mVar 0) (aNil))) (mC (.int 60)))) (aNil))))
      (sSeq (sAsg [] 1 (mS1 stripS (mVar 0) (mC (.str [32]))))
      (sSeq (sAsg [] 2 (m2 eqD (mSl (mVar 1) (oNone) (oSome (mC (.int 1)))) (mC (.str [43]))))
      (sSeq (sAsg [] 1 (mIf (mB (mVar 2)) (mSl (mVar 1) (oSome (mC (.int 1))) (oNone)) (mVar 1)))
      (sSeq (sParS [] 3 4 (mL1T (fLst (aCons (mC (.str [])) (aCons (mC (.bl false)) (aNil))))) (mVal (mC (.bl false))))
      (sSeq (sFor [] (.nm 5) (iOf iterS (mVar 1)) (sSeq (sDrop [] (mCall den_need (aCons (mOr (m2 inD (mVar 5) (mC (.str [48, 49, 50, 51, 52, 53, 54, 55, 56, 57]))) (m2 inD (mVar 5) (mC (.str [32, 45, 46, 47, 40, 41])))) (aNil))))
      (sIf [] (mB (m2 inD (mVar 5) (mC (.str [48, 49, 50, 51, 52, 53, 54, 55, 56, 57])))) (sPut2 [3] 3 (m1 negD (mC (.int 1))) (mC (.int 0)) (m2 addD (m2 ixD (m2 ixD (mVar 3) (m1 negD (mC (.int 1)))) (mC (.int 0))) (mVar 5))) (sIf [] (mB (m2 eqD (mVar 5) (mC (.str [40])))) (sSeq (sDrop [] (mCall den_need (aCons (mNot (mVar 4)) (aNil))))
      (sSeq (sAsg [] 4 (mC (.bl true)))
      (sAppT [] 3 (fLst (aCons (mC (.str [])) (aCons (mC (.bl true)) (aNil))))))) (sIf [] (mB (m2 eqD (mVar 5) (mC (.str [41])))) (sSeq (sDrop [3] (mCall den_need (aCons (mAnd (mVar 4) (m2 neD (m2 ixD (m2 ixD (mVar 3) (m1 negD (mC (.int 1)))) (mC (.int 0))) (mC (.str [])))) (aNil))))
      (sSeq (sAsg [] 4 (mC (.bl false)))
      (sAppT [] 3 (fLst (aCons (mC (.str [])) (aCons (mC (.bl false)) (aNil))))))) (sNil))))))
      (sSeq (sDrop [3] (mCall den_need (aCons (mAnd (mNot (mVar 4)) (mCall anyF (aCons (mOfL (fLc [6] (.nm 6) (iOf iterF (mVar 3)) (bYes) (m2 neD (m2 ixD (mVar 6) (mC (.int 0))) (mC (.str []))))) (aNil)))) (aNil))))
      (sRet [3] (mTup (aCons (mVar 2) (aCons (mOfL (fLc [7, 8] (.tp [.nm 7, .nm 8]) (iOf iterF (mVar 3)) (mB (m2 neD (mVar 7) (mC (.str [])))) (mTup (aCons (mVar 7) (aCons (mVar 8) (aNil)))))) (aNil)))))))))))
def den_pieces_of : List D → Res D := runB 9 1 m_pieces_of
def m_figures_of : EnvS → Out := sRet [] (mS1 joinS (mC (.str [])) (mOfL (fLc [1, 2] (.tp [.nm 1, .nm 2]) (iOf iterF (mVar 0)) (bYes) (mVar 1))))
def den_figures_of : List D → Res D := runB 3 1 m_figures_of
def m_without_ahead : EnvS → Out := sSeq (sAsg [] 3 (mC (.int 0)))
      (sSeq (sFor [] (.tp [.nm 4, .tp [.nm 5, .nm 6]]) (iOfL enumF (aCons (mVar 0) (aNil))) (sSeq (sIf [] (bAnd (mB (m2 eqD (mVar 3) (mVar 1))) (bAnd (mB (mVar 6)) (mB (m2 eqD (mVar 5) (mVar 2))))) (sRet [] (mCall den_figures_of (aCons (mSl (mVar 0) (oSome (m2 addD (mVar 4) (mC (.int 1)))) (oNone)) (aNil)))) (sNil))
      (sAsg [] 3 (m2 addD (mVar 3) (mCall lenF (aCons (mVar 5) (aNil)))))))
      (sRet [] (mSl (mCall den_figures_of (aCons (mVar 0) (aNil))) (oSome (mVar 1)) (oNone))))
def den_without_ahead : List D → Res D := runB 7 3 m_without_ahead
def m_far_ones : EnvS → Out := sSeq (sOwn [] 3 (fLst (aNil)))
      (sSeq (sAsg [] 4 (mSl (mCall den_figures_of (aCons (mVar 1) (aNil))) (oSome (mVar 2)) (oNone)))
      (sSeq (sFor [] (.nm 5) (iOf iterT (mVar 0)) (sIf [] (mB (mS1 startsS (mVar 4) (m2 ixD (mVar 5) (mC (.int 0))))) (sSeq (sAsg [] 6 (mCall den_without_ahead (aCons (mVar 1) (aCons (m2 addD (mVar 2) (mCall lenF (aCons (m2 ixD (mVar 5) (mC (.int 0))) (aNil)))) (aCons (m2 ixD (mVar 5) (mC (.int 2))) (aNil))))))
      (sSeq (sApp [] 3 (mTup (aCons (m2 ixD (mVar 5) (mC (.int 0))) (aCons (mVar 6) (aNil)))))
      (sApp [] 3 (mTup (aCons (m2 ixD (mVar 5) (mC (.int 0))) (aCons (mSl (mVar 4) (oSome (mCall lenF (aCons (m2 ixD (mVar 5) (mC (.int 0))) (aNil)))) (oNone)) (aNil))))))) (sNil)))
      (sRet [3] (mVar 3))))
def den_far_ones : List D → Res D := runB 7 3 m_far_ones
def m_meant : EnvS → Out := sSeq (sAsgT [] (.tp [.nm 3, .nm 4]) (mCall den_pieces_of (aCons (mVar 1) (aNil))))
      (sSeq (sIf [] (mB (mVar 3)) (sRet [] (mCall den_far_ones (aCons (mVar 0) (aCons (mVar 4) (aCons (mC (.int 0)) (aNil)))))) (sNil))
      (sSeq (sPar [] 5 6 (mCall den_land_of (aCons (mVar 0) (aCons (mVar 2) (aNil)))) (mCall den_figures_of (aCons (mVar 4) (aNil))))
      (sSeq (sOwn [] 7 (fLst (aCons (mTup (aCons (mVar 2) (aCons (mVar 6) (aNil)))) (aNil))))
      (sSeq (sIf [] (bAnd (mB (m2 neD (m2 ixD (mVar 5) (mC (.int 2))) (mC (.str [])))) (mB (mS1 startsS (mVar 6) (m2 ixD (mVar 5) (mC (.int 2)))))) (sApp [] 7 (mTup (aCons (mVar 2) (aCons (mSl (mVar 6) (oSome (mCall lenF (aCons (m2 ixD (mVar 5) (mC (.int 2))) (aNil)))) (oNone)) (aNil))))) (sNil))
      (sSeq (sIf [] (mB (mS1 startsS (mVar 6) (m2 ixD (mVar 5) (mC (.int 1))))) (sExt [] 7 (mCall den_far_ones (aCons (mVar 0) (aCons (mVar 4) (aCons (mCall lenF (aCons (m2 ixD (mVar 5) (mC (.int 1))) (aNil))) (aNil)))))) (sNil))
      (sRet [7] (mVar 7)))))))
def den_meant : List D → Res D := runB 8 3 m_meant
def m_readings_of : EnvS → Out := sRet [] (mOfL (fLc [3] (.nm 3) (iOf iterF (mCall sortSetF (aCons (mCall den_meant (aCons (mVar 0) (aCons (mVar 1) (aCons (mVar 2) (aNil))))) (aNil)))) (mB (mCall den_has_number (aCons (mVar 0) (aCons (mVar 3) (aNil))))) (mVar 3)))
def den_readings_of : List D → Res D := runB 4 3 m_readings_of
def m_readings : EnvS → Out := sSeq (sDrop [] (mCall den_need_land (aCons (mVar 0) (aCons (mVar 2) (aNil)))))
      (sRet [] (mCall den_readings_of (aCons (mVar 0) (aCons (mVar 1) (aCons (mVar 2) (aNil))))))
def den_readings : List D → Res D := runB 3 3 m_readings
def m_read : EnvS → Out := sSeq (sAsg [] 3 (mCall den_readings (aCons (mVar 0) (aCons (mVar 1) (aCons (mVar 2) (aNil))))))
      (sSeq (sIf [] (mB (m2 eqD (mVar 3) (mLst (aNil)))) (sNever) (sNil))
      (sSeq (sIf [] (mB (m2 gtD (mCall lenF (aCons (mVar 3) (aNil))) (mC (.int 1)))) (sNever) (sNil))
      (sRet [] (m2 ixD (mVar 3) (mC (.int 0))))))
def den_read : List D → Res D := runB 4 3 m_read
def m_need_number : EnvS → Out := sSeq (sDrop [] (mCall den_need_book (aCons (mVar 0) (aNil))))
      (sIf [] (bNot (mB (mCall den_has_number (aCons (mVar 0) (aCons (mVar 1) (aNil)))))) (sNever) (sNil))
def den_need_number : List D → Res D := runB 2 2 m_need_number
def m_dialled_of : EnvS → Out := sSeq (sAsg [] 3 (mCall den_land_of (aCons (mVar 0) (aCons (mVar 2) (aNil)))))
      (sRet [] (mIf (mB (m2 eqD (m2 ixD (mVar 1) (mC (.int 0))) (mVar 2))) (m2 addD (m2 ixD (mVar 3) (mC (.int 2))) (m2 ixD (mVar 1) (mC (.int 1)))) (m2 addD (m2 addD (m2 ixD (mVar 3) (mC (.int 1))) (m2 ixD (mVar 1) (mC (.int 0)))) (m2 ixD (mVar 1) (mC (.int 1))))))
def den_dialled_of : List D → Res D := runB 4 3 m_dialled_of
def m_dialled : EnvS → Out := sSeq (sDrop [] (mCall den_need_number (aCons (mVar 0) (aCons (mVar 1) (aNil)))))
      (sSeq (sDrop [] (mCall den_need_land (aCons (mVar 0) (aCons (mVar 2) (aNil)))))
      (sRet [] (mCall den_dialled_of (aCons (mVar 0) (aCons (mVar 1) (aCons (mVar 2) (aNil)))))))
def den_dialled : List D → Res D := runB 3 3 m_dialled
def b_groups_of_1 : EnvS → Out := sSeq (sApp [] 2 (mSl (mVar 1) (oSome (mVar 3)) (oSome (m2 addD (mVar 3) (mVar 4)))))
      (sAsg [] 3 (m2 addD (mVar 3) (mVar 4)))
def m_groups_of : EnvS → Out := sSeq (sParO [] 2 3 (fLst (aNil)) (mC (.int 0)))
      (sSeq (sFor [] (.nm 4) (iOf iterT (m2 ixD (mCall den_row_of (aCons (mVar 0) (aCons (mVar 1) (aNil)))) (mC (.int 3)))) (b_groups_of_1))
      (sRet [2] (mVar 2)))
def den_groups_of : List D → Res D := runB 5 2 m_groups_of
def m_written : EnvS → Out := sSeq (sDrop [] (mCall den_need_number (aCons (mVar 0) (aCons (mVar 1) (aNil)))))
      (sSeq (sIf [] (bOr (bNot (mB (m1 (isiF "str") (mVar 2)))) (mB (m1 (notInGF ws_WAYS) (mVar 2)))) (sNever) (sNil))
      (sSeq (sDrop [] (mCall den_need_land (aCons (mVar 0) (aCons (mVar 3) (aNil)))))
      (sSeq (sAsg [] 4 (mCall den_groups_of (aCons (mCall den_land_of (aCons (mVar 0) (aCons (m2 ixD (mVar 1) (mC (.int 0))) (aNil)))) (aCons (m2 ixD (mVar 1) (mC (.int 1))) (aNil)))))
      (sSeq (sIf [] (mB (m2 eqD (mVar 2) (mC (.str [112, 108, 97, 105, 110])))) (sRet [] (m2 addD (m2 addD (mC (.str [43])) (m2 ixD (mVar 1) (mC (.int 0)))) (m2 ixD (mVar 1) (mC (.int 1))))) (sNil))
      (sSeq (sIf [] (mB (m2 eqD (mVar 2) (mC (.str [102, 97, 114])))) (sRet [] (m2 addD (mC (.str [43])) (mS1 joinS (mC (.str [32])) (m2 addD (mLst (aCons (m2 ixD (mVar 1) (mC (.int 0))) (aNil))) (mVar 4))))) (sNil))
      (sSeq (sIf [] (mB (m2 eqD (mVar 2) (mC (.str [110, 101, 97, 114])))) (sRet [] (mS1 joinS (mC (.str [32])) (mVar 4))) (sNil))
      (sSeq (sAsg [] 5 (mCall den_land_of (aCons (mVar 0) (aCons (mVar 3) (aNil)))))
      (sSeq (sIf [] (mB (m2 eqD (m2 ixD (mVar 1) (mC (.int 0))) (mVar 3))) (sRet [] (m2 addD (m2 ixD (mVar 5) (mC (.int 2))) (mS1 joinS (mC (.str [32])) (mVar 4)))) (sNil))
      (sRet [] (mS1 joinS (mC (.str [32])) (m2 addD (mLst (aCons (m2 addD (m2 ixD (mVar 5) (mC (.int 1))) (m2 ixD (mVar 1) (mC (.int 0)))) (aNil))) (mVar 4))))))))))))
def den_written : List D → Res D := runB 6 4 m_written
def m_ways_for : EnvS → Out := sSeq (sDrop [] (mCall den_need_number (aCons (mVar 0) (aCons (mVar 1) (aNil)))))
      (sSeq (sDrop [] (mCall den_need_land (aCons (mVar 0) (aCons (mVar 2) (aNil)))))
      (sRet [] (mOfL (fLc [3] (.nm 3) (iGF ws_WAYS) (mB (m2 eqD (mCall den_readings_of (aCons (mVar 0) (aCons (mCall den_written (aCons (mVar 0) (aCons (mVar 1) (aCons (mVar 3) (aCons (mVar 2) (aNil)))))) (aCons (mVar 2) (aNil))))) (mLst (aCons (mVar 1) (aNil))))) (mVar 3)))))
def den_ways_for : List D → Res D := runB 4 3 m_ways_for
def m_shortest : EnvS → Out := sSeq (sAsg [] 3 (mOfL (fLc [4] (.nm 4) (iOf iterF (mCall den_ways_for (aCons (mVar 0) (aCons (mVar 1) (aCons (mVar 2) (aNil)))))) (bYes) (mCall den_written (aCons (mVar 0) (aCons (mVar 1) (aCons (mVar 4) (aCons (mVar 2) (aNil)))))))))
      (sRet [] (mCall (minKF (mCall lenF (aCons (mVar 0) (aNil)))) (aCons (mVar 3) (aNil))))
def den_shortest : List D → Res D := runB 5 3 m_shortest
def m_linked : EnvS → Out := sSeq (sDrop [] (mCall den_need_number (aCons (mVar 0) (aCons (mVar 1) (aNil)))))
      (sRet [] (m2 addD (mC (.str [43])) (mS1 joinS (mC (.str [45])) (m2 addD (mLst (aCons (m2 ixD (mVar 1) (mC (.int 0))) (aNil))) (mCall den_groups_of (aCons (mCall den_land_of (aCons (mVar 0) (aCons (m2 ixD (mVar 1) (mC (.int 0))) (aNil)))) (aCons (m2 ixD (mVar 1) (mC (.int 1))) (aNil))))))))
def den_linked : List D → Res D := runB 2 2 m_linked
def m__law_cell : EnvS → Out := sSeq (sIf [] (mB (m2 eqD (mVar 0) (mLst (aNil)))) (sRet [] (m2 mulD (mVar 1) (mC (.int 7919)))) (sNil))
      (sRet [] (m2 addD (m2 ixD (mVar 0) (m2 modD (mVar 1) (mCall lenF (aCons (mVar 0) (aNil))))) (m2 mulD (m2 fdivD (mVar 1) (mCall lenF (aCons (mVar 0) (aNil)))) (mC (.int 104729)))))
def den__law_cell : List D → Res D := runB 2 2 m__law_cell
def m__law_drawn : EnvS → Out := sSeq (sAsg [] 2 (m2 modD (m2 addD (m2 mulD (mVar 0) (mC (.int 6364136223846793005))) (m2 mulD (m2 addD (mVar 1) (mC (.int 1))) (mC (.int 1442695040888963407)))) (mC (.int 340282366920938463463374607431768211507))))
      (sSeq (sAsg [] 2 (m2 modD (m2 mulD (mVar 2) (mVar 2)) (mC (.int 340282366920938463463374607431768211297))))
      (sSeq (sAsg [] 2 (m2 mulD (m2 mulD (m2 addD (m2 modD (mVar 2) (mC (.int 18446744073709551557))) (mC (.int 1))) (m2 addD (m2 fdivD (mVar 2) (mC (.int 18446744073709551557))) (mC (.int 1)))) (mVar 2)))
      (sRet [] (m2 modD (mVar 2) (mC (.int 340282366920938463463374607431768211507))))))
def den__law_drawn : List D → Res D := runB 3 2 m__law_drawn
def m__law_one_row : EnvS → Out := sSeq (sAsg [] 1 (m2 ixD (mLst (aCons (mC (.str [])) (aCons (mC (.str [49])) (aCons (mC (.str [50])) (aCons (mC (.str [49, 50])) (aCons (mC (.str [55])) (aCons (mC (.str [55, 48])) (aCons (mC (.str [48])) (aCons (mC (.str [48, 48])) (aCons (mC (.str [49, 50, 51])) (aCons (mC (.str [57])) (aNil)))))))))))) (m2 modD (mVar 0) (mC (.int 10)))))
      (sSeq (sAsg [] 2 (m2 addD (mCall maxF (aCons (mC (.int 3)) (aCons (m2 addD (mCall lenF (aCons (mVar 1) (aNil))) (mC (.int 1))) (aNil)))) (m2 modD (m2 fdivD (mVar 0) (mC (.int 16))) (m2 ixD (mLst (aCons (mC (.int 2)) (aCons (mC (.int 3)) (aCons (mC (.int 5)) (aNil))))) (m2 modD (m2 fdivD (mVar 0) (mC (.int 64))) (mC (.int 3)))))))
      (sSeq (sParV [] 3 4 (mVar 2) (fLst (aNil)))
      (sSeq (whileS [] (mB (m2 gtD (mVar 3) (mC (.int 0)))) (sSeq (sAsg [] 5 (m2 addD (mC (.int 1)) (m2 modD (mCall den__law_drawn (aCons (mVar 0) (aCons (mVar 3) (aNil)))) (mCall minF (aCons (mVar 3) (aCons (mC (.int 4)) (aNil)))))))
      (sSeq (sApp [] 4 (mVar 5))
      (sAsg [] 3 (m2 subD (mVar 3) (mVar 5))))) 1000)
      (sRet [4] (mTup (aCons (m2 ixD (mLst (aCons (mC (.str [104, 111, 109, 101])) (aCons (mC (.str [99, 101, 108, 108])) (aCons (mC (.str [102, 114, 101, 101])) (aNil))))) (m2 modD (m2 fdivD (mVar 0) (mC (.int 256))) (mC (.int 3)))) (aCons (mVar 1) (aCons (mVar 2) (aCons (mCall tupleF (aCons (mVar 4) (aNil))) (aNil))))))))))
def den__law_one_row : List D → Res D := runB 6 1 m__law_one_row
def m__law_land : EnvS → Out := sSeq (sOwn [] 2 (fLst (aNil)))
      (sSeq (sForR [] (.nm 3) (iOfL rng1F (aCons (m2 addD (mC (.int 1)) (m2 modD (mVar 0) (mC (.int 5)))) (aNil))) (sSeq (sAsg [] 4 (mCall den__law_one_row (aCons (mCall den__law_drawn (aCons (mVar 0) (aCons (mVar 3) (aNil)))) (aNil))))
      (sIf [2] (mB (m2 notInD (mSl (mVar 4) (oSome (mC (.int 1))) (oSome (mC (.int 3)))) (mOfL (fLc [5] (.nm 5) (iOf iterF (mVar 2)) (bYes) (mSl (mVar 5) (oSome (mC (.int 1))) (oSome (mC (.int 3)))))))) (sApp [] 2 (mVar 4)) (sNil))))
      (sRet [2] (mTup (aCons (mVar 1) (aCons (m2 ixD (mLst (aCons (mC (.str [48])) (aCons (mC (.str [48, 48])) (aCons (mC (.str [48, 49, 49])) (aCons (mC (.str [57])) (aCons (mC (.str [49])) (aNil))))))) (m2 modD (m2 fdivD (mVar 0) (mC (.int 8))) (mC (.int 5)))) (aCons (m2 ixD (mLst (aCons (mC (.str [48])) (aCons (mC (.str [])) (aCons (mC (.str [56])) (aCons (mC (.str [48])) (aCons (mC (.str [48, 49])) (aNil))))))) (m2 modD (m2 fdivD (mVar 0) (mC (.int 64))) (mC (.int 5)))) (aCons (mCall tupleF (aCons (mVar 2) (aNil))) (aNil))))))))
def den__law_land : List D → Res D := runB 6 2 m__law_land
def m__law_book : EnvS → Out := sSeq (sAsg [] 1 (mLst (aCons (mC (.str [49])) (aCons (mC (.str [50, 48])) (aCons (mC (.str [50, 49])) (aCons (mC (.str [51])) (aCons (mC (.str [52, 52])) (aCons (mC (.str [52, 53, 53])) (aCons (mC (.str [55, 55])) (aNil))))))))))
      (sSeq (sAsg [] 2 (mSl (mOfL (fLc [3, 4] (.tp [.nm 3, .nm 4]) (iOfL enumF (aCons (mVar 1) (aNil))) (mB (m2 eqD (m2 modD (mCall den__law_drawn (aCons (mVar 0) (aCons (mVar 3) (aNil)))) (mC (.int 3))) (mC (.int 0)))) (mVar 4))) (oNone) (oSome (mC (.int 4)))))
      (sSeq (sAsg [] 2 (mIf (mB (m2 neD (mVar 2) (mLst (aNil)))) (mVar 2) (mLst (aCons (m2 ixD (mVar 1) (m2 modD (mVar 0) (mC (.int 7)))) (aNil)))))
      (sRet [] (mCall tupleF (aCons (mOfL (fLc [3, 4] (.tp [.nm 3, .nm 4]) (iOfL enumF (aCons (mVar 2) (aNil))) (bYes) (mCall den__law_land (aCons (mCall den__law_drawn (aCons (mVar 0) (aCons (m2 addD (mC (.int 20)) (mVar 3)) (aNil)))) (aCons (mVar 4) (aNil)))))) (aNil))))))
def den__law_book : List D → Res D := runB 5 1 m__law_book
def m__law_digits : EnvS → Out := sRet [] (m2 addD (m2 ixD (mVar 1) (mC (.int 1))) (mS1 joinS (mC (.str [])) (mOfL (fLc [2] (.nm 2) (iOfL rng1F (aCons (m2 subD (m2 ixD (mVar 1) (mC (.int 2))) (mCall lenF (aCons (m2 ixD (mVar 1) (mC (.int 1))) (aNil)))) (aNil))) (bYes) (mCall strF (aCons (m2 modD (m2 fdivD (mCall den__law_drawn (aCons (mVar 0) (aCons (mVar 2) (aNil)))) (mC (.int 8))) (m2 ixD (mLst (aCons (mC (.int 10)) (aCons (mC (.int 3)) (aNil)))) (m2 modD (mVar 0) (mC (.int 2))))) (aNil)))))))
def den__law_digits : List D → Res D := runB 3 2 m__law_digits
def m__law_number : EnvS → Out := sSeq (sAsg [] 2 (m2 ixD (mVar 0) (m2 modD (mVar 1) (mCall lenF (aCons (mVar 0) (aNil))))))
      (sRet [] (mTup (aCons (m2 ixD (mVar 2) (mC (.int 0))) (aCons (mCall den__law_digits (aCons (mCall den__law_drawn (aCons (mVar 1) (aCons (mC (.int 1)) (aNil)))) (aCons (m2 ixD (m2 ixD (mVar 2) (mC (.int 3))) (m2 modD (m2 fdivD (mVar 1) (mC (.int 8))) (mCall lenF (aCons (m2 ixD (mVar 2) (mC (.int 3))) (aNil))))) (aNil)))) (aNil)))))
def den__law_number : List D → Res D := runB 3 2 m__law_number
def b_law_1 : EnvS → Out := sSeq (sAsg [] 9 (mCall den_written (aCons (mVar 3) (aCons (mVar 5) (aCons (mVar 8) (aCons (mVar 7) (aNil)))))))
      (sIf [] (bOr (mB (m2 neD (mVar 9) (mCall den_written (aCons (mVar 3) (aCons (mVar 5) (aCons (mVar 8) (aCons (m2 ixD (mVar 6) (mC (.int 0))) (aNil)))))))) (mB (m2 notInD (mVar 5) (mCall den_readings (aCons (mVar 3) (aCons (mVar 9) (aCons (mVar 7) (aNil)))))))) (sRet [] (mC (.bl false))) (sNil))
def b_law_2 : EnvS → Out := sIf [] (mB (m2 notInD (mVar 5) (mCall den_readings (aCons (mVar 3) (aCons (mVar 9) (aCons (mVar 7) (aNil))))))) (sRet [] (mC (.bl false))) (sNil)
def b_law_3 : EnvS → Out := sSeq (sAsg [] 9 (mCall den_written (aCons (mVar 3) (aCons (mVar 5) (aCons (mVar 8) (aCons (mVar 7) (aNil)))))))
      (sSeq (sAsg [] 11 (m2 eqD (mCall den_readings (aCons (mVar 3) (aCons (mVar 9) (aCons (mVar 7) (aNil))))) (mLst (aCons (mVar 5) (aNil)))))
      (sSeq (sIf [] (bOr (mB (m2 neD (mVar 11) (m2 inD (mVar 8) (mVar 10)))) (bAnd (mB (mVar 11)) (mB (m2 neD (mCall den_read (aCons (mVar 3) (aCons (mVar 9) (aCons (mVar 7) (aNil))))) (mVar 5))))) (sRet [] (mC (.bl false))) (sNil))
      (sIf [] (bAnd (mB (mVar 11)) (mB (m2 gtD (mCall lenF (aCons (mCall den_shortest (aCons (mVar 3) (aCons (mVar 5) (aCons (mVar 7) (aNil))))) (aNil))) (mCall lenF (aCons (mVar 9) (aNil)))))) (sRet [] (mC (.bl false))) (sNil))))
def b_law_4 : EnvS → Out := sSeq (sFor [] (.nm 8) (iOf iterF (mLst (aCons (mC (.str [112, 108, 97, 105, 110])) (aCons (mC (.str [102, 97, 114])) (aNil))))) (b_law_1))
      (sSeq (sFor [] (.nm 9) (iOf iterF (mLst (aCons (mCall den_linked (aCons (mVar 3) (aCons (mVar 5) (aNil)))) (aCons (mCall den_dialled (aCons (mVar 3) (aCons (mVar 5) (aCons (mVar 7) (aNil))))) (aNil))))) (b_law_2))
      (sSeq (sAsg [] 10 (mCall den_ways_for (aCons (mVar 3) (aCons (mVar 5) (aCons (mVar 7) (aNil))))))
      (sSeq (sFor [] (.nm 8) (iOf iterF (mLst (aCons (mC (.str [112, 108, 97, 105, 110])) (aCons (mC (.str [102, 97, 114])) (aCons (mC (.str [104, 111, 109, 101])) (aCons (mC (.str [110, 101, 97, 114])) (aNil))))))) (b_law_3))
      (sSeq (sAsg [] 12 (m2 addD (m2 ixD (mVar 6) (mC (.int 2))) (m2 ixD (mVar 5) (mC (.int 1)))))
      (sSeq (sIf [] (bAnd (mB (m2 eqD (mVar 7) (m2 ixD (mVar 6) (mC (.int 0))))) (mB (m2 neD (mCall den_dialled (aCons (mVar 3) (aCons (mVar 5) (aCons (mVar 7) (aNil))))) (mVar 12)))) (sRet [] (mC (.bl false))) (sNil))
      (sSeq (sIf [] (mB (m2 neD (m1 (replF [32] []) (mCall den_written (aCons (mVar 3) (aCons (mVar 5) (aCons (mC (.str [102, 97, 114])) (aCons (mVar 7) (aNil))))))) (mCall den_written (aCons (mVar 3) (aCons (mVar 5) (aCons (mC (.str [112, 108, 97, 105, 110])) (aCons (mVar 7) (aNil)))))))) (sRet [] (mC (.bl false))) (sNil))
      (sIf [] (mB (m2 neD (m1 (replF [32] []) (mCall den_written (aCons (mVar 3) (aCons (mVar 5) (aCons (mC (.str [104, 111, 109, 101])) (aCons (mVar 7) (aNil))))))) (mCall den_dialled (aCons (mVar 3) (aCons (mVar 5) (aCons (mVar 7) (aNil))))))) (sRet [] (mC (.bl false))) (sNil))))))))
def b_law_5 : EnvS → Out := sSeq (sAsg [] 5 (mCall den__law_number (aCons (mVar 3) (aCons (mCall den__law_drawn (aCons (mVar 2) (aCons (m2 addD (mC (.int 30)) (mVar 4)) (aNil)))) (aNil)))))
      (sSeq (sAsg [] 6 (m2 ixD (mOfL (fLc [13] (.nm 13) (iOf iterT (mVar 3)) (mB (m2 eqD (m2 ixD (mVar 13) (mC (.int 0))) (m2 ixD (mVar 5) (mC (.int 0))))) (mVar 13))) (mC (.int 0))))
      (sFor [] (.nm 7) (iOf iterF (mOfL (fLc [13] (.nm 13) (iOf iterT (mVar 3)) (bYes) (m2 ixD (mVar 13) (mC (.int 0)))))) (b_law_4)))
def b_law_6 : EnvS → Out := sSeq (sAsg [] 2 (mCall den__law_drawn (aCons (mCall den__law_cell (aCons (mVar 0) (aCons (mVar 1) (aNil)))) (aCons (mVar 1) (aNil)))))
      (sSeq (sAsg [] 3 (mCall den__law_book (aCons (m2 fdivD (mVar 2) (mC (.int 64))) (aNil))))
      (sForR [] (.nm 4) (iOfL rng1F (aCons (mC (.int 4)) (aNil))) (b_law_5)))
def m_law : EnvS → Out := sSeq (sForR [] (.nm 1) (iOfL rng1F (aCons (mCall maxF (aCons (mC (.int 1)) (aCons (mCall minF (aCons (mC (.int 3)) (aCons (mCall lenF (aCons (mVar 0) (aNil))) (aNil)))) (aNil)))) (aNil))) (b_law_6))
      (sRet [] (mC (.bl true)))
def den_law : List D → Res D := runB 14 1 m_law
end DL
namespace DL
/-! ## denotations computed -/
section
variable {ρ : EnvD} {σ : EnvS} {a b c : D} {ma mb mc : EnvD → Res D} {mt mt' : EnvD → Res Bool} {mr : EnvD → Res (List D)} {i j : Int} {s t : List Nat} {ds es : List D}
@[simp] theorem mVar0 : mVar 0 (some a :: ρ) = .ok a := rfl
@[simp] theorem mVarS {n : Nat} {o : Option D} : mVar (n + 1) (o :: ρ) = mVar n ρ := rfl
@[simp] theorem vis_nil : vis [] = [] := rfl
@[simp] theorem vis_cons (x : Sl) : vis (x :: σ) = visS x :: vis σ := rfl
@[simp] theorem visS_val : visS (.val a) = some a := rfl
@[simp] theorem visS_no : visS .no = none := rfl
@[simp] theorem visS_own : visS (.own ds) = none := rfl
@[simp] theorem inj_nil : inj [] = [] := rfl
@[simp] theorem inj_cons (x : Option D) : inj (x :: ρ) = injS x :: inj ρ := rfl
@[simp] theorem injS_some : injS (some a) = .val a := rfl
@[simp] theorem injS_none : injS none = .no := rfl
@[simp] theorem mC_eq : mC a ρ = .ok a := rfl
@[simp] theorem m1_eq {f : D → Res D} : m1 f ma ρ = (ma ρ).bind f := rfl
@[simp] theorem m2_eq {f : D → D → Res D} : m2 f ma mb ρ = (ma ρ).bind fun a => (mb ρ).bind fun b => f a b := rfl
@[simp] theorem mB_eq : mB ma ρ = (ma ρ).bind asB := rfl
@[simp] theorem asB_bl {k : Bool} : asB (.bl k) = .ok k := rfl
@[simp] theorem asI_int : asI (.int i) = .ok i := rfl
@[simp] theorem asS_str : asS (.str s) = .ok s := rfl
@[simp] theorem mAnd_eq : mAnd ma mb ρ = (ma ρ).bind fun a => (asB a).bind fun k => if k = true then mb ρ else .ok (.bl false) := rfl
@[simp] theorem mOr_eq : mOr ma mb ρ = (ma ρ).bind fun a => (asB a).bind fun k => if k = true then .ok (.bl true) else mb ρ := rfl
@[simp] theorem mNot_eq : mNot ma ρ = (ma ρ).bind fun a => (asB a).bind fun k => .ok (.bl (!k)) := rfl
@[simp] theorem mIf_eq : mIf mt ma mb ρ = (mt ρ).bind fun k => if k = true then ma ρ else mb ρ := rfl
@[simp] theorem mChain_eq {f g : D → D → Res D} : mChain f g ma mb mc ρ = (ma ρ).bind fun a => (mb ρ).bind fun b => (f a b).bind fun k => (asB k).bind fun k => if k = true then (mc ρ).bind fun c => g b c else .ok (.bl false) := rfl
@[simp] theorem bAnd_eq : bAnd mt mt' ρ = (mt ρ).bind fun k => if k = true then mt' ρ else .ok false := rfl
@[simp] theorem bOr_eq : bOr mt mt' ρ = (mt ρ).bind fun k => if k = true then .ok true else mt' ρ := rfl
@[simp] theorem bNot_eq : bNot mt ρ = (mt ρ).bind fun k => .ok (!k) := rfl
@[simp] theorem bYes_eq : bYes ρ = .ok true := rfl
@[simp] theorem aNil_eq : aNil ρ = .ok [] := rfl
@[simp] theorem aCons_eq : aCons ma mr ρ = (ma ρ).bind fun d => (mr ρ).bind fun ds => .ok (d :: ds) := rfl
@[simp] theorem mCall_eq {f : List D → Res D} : mCall f mr ρ = (mr ρ).bind f := rfl
@[simp] theorem mTup_eq : mTup mr ρ = (mr ρ).bind fun ds => if ds.length ≤ 1000000 then .ok (.tup ds) else .stk := rfl
@[simp] theorem mLst_eq : mLst mr ρ = (mr ρ).bind fun ds => if ds.length ≤ 1000000 then .ok (.lst ds) else .stk := rfl
@[simp] theorem fLst_eq : fLst mr ρ = (mr ρ).bind fun ds => if ds.length ≤ 1000000 then .ok ds else .stk := rfl
@[simp] theorem mSl_eq {lo hi : EnvD → Res (Option Int)} : mSl ma lo hi ρ = (ma ρ).bind fun d => (lo ρ).bind fun l => (hi ρ).bind fun h => slD d l h := rfl
@[simp] theorem oNone_eq : oNone ρ = .ok none := rfl
@[simp] theorem oSome_eq : oSome ma ρ = (ma ρ).bind fun d => (asI d).bind fun i => .ok (some i) := rfl
@[simp] theorem mOfL_eq : mOfL mr ρ = (mr ρ).bind fun ds => .ok (.lst ds) := rfl
@[simp] theorem mS1_eq {f : List Nat → D → Res D} : mS1 f ma mb ρ = (ma ρ).bind fun a => (asS a).bind fun z => (mb ρ).bind (f z) := rfl
@[simp] theorem fLc_eq {own : List Nat} {g : Tg} {mi : EnvD → Res (List D)} : fLc own g mi mt ma ρ = (mi ρ).bind fun ds => lcG g mt ma (wipeD ρ own) ds := rfl
@[simp] theorem wipeD_nil : wipeD ρ [] = ρ := rfl
@[simp] theorem wipeD_cons {v : Nat} {vs : List Nat} : wipeD ρ (v :: vs) = (wipeD ρ vs).set v none := rfl
@[simp] theorem iOf_eq {f : D → Res (List D)} : iOf f ma ρ = (ma ρ).bind f := rfl
@[simp] theorem iOfL_eq {f : List D → Res (List D)} : iOfL f mr ρ = (mr ρ).bind f := rfl
@[simp] theorem iterF_lst : iterF (.lst ds) = .ok ds := rfl
@[simp] theorem iterT_tup : iterT (.tup ds) = .ok ds := rfl
@[simp] theorem iterS_str : iterS (.str s) = .ok (s.map fun c => .str [c]) := rfl
@[simp] theorem bindT_nm {n : Nat} : bindT (.nm n) a σ = some (σ.set n (.val a)) := by simp [bindT]
@[simp] theorem bindT_tp {gs : List Tg} : bindT (.tp gs) (.tup ds) σ = bindTs gs ds σ := by simp [bindT]
@[simp] theorem bindT_tl {gs : List Tg} : bindT (.tp gs) (.lst ds) σ = bindTs gs ds σ := by simp [bindT]
@[simp] theorem bindTs_nil : bindTs [] [] σ = some σ := by simp [bindTs]
@[simp] theorem bindTs_cons {g : Tg} {gs : List Tg} : bindTs (g :: gs) (a :: ds) σ = (bindT g a σ).bind (bindTs gs ds) := by simp [bindTs]
/-! operators -/
@[simp] theorem add_int : addD (.int i) (.int j) = .ok (.int (i + j)) := rfl
@[simp] theorem add_str : addD (.str s) (.str t) = if s.length + t.length ≤ 1000000 then .ok (.str (s ++ t)) else .stk := rfl
@[simp] theorem add_lst : addD (.lst ds) (.lst es) = if ds.length + es.length ≤ 1000000 then .ok (.lst (ds ++ es)) else .stk := rfl
@[simp] theorem sub_int : subD (.int i) (.int j) = .ok (.int (i - j)) := rfl
@[simp] theorem mul_int : mulD (.int i) (.int j) = if cmulB i j = true then .ok (.int (i * j)) else .stk := rfl
@[simp] theorem mod_int : modD (.int i) (.int j) = if 0 < j then .ok (.int (i % j)) else .stk := rfl
@[simp] theorem fdiv_int : fdivD (.int i) (.int j) = if 0 < j ∧ j.natAbs.log2 < 9000 then .ok (.int (i / j)) else .stk := rfl
@[simp] theorem neg_int : negD (.int i) = .ok (.int (-i)) := rfl
@[simp] theorem lt_int : ltD (.int i) (.int j) = .ok (.bl (decide (i < j))) := rfl
@[simp] theorem lt_str : ltD (.str s) (.str t) = .ok (.bl (decide (s < t))) := rfl
@[simp] theorem le_int : leD (.int i) (.int j) = .ok (.bl (decide (i ≤ j))) := rfl
@[simp] theorem gt_int : gtD (.int i) (.int j) = .ok (.bl (decide (j < i))) := rfl
@[simp] theorem ge_int : geD (.int i) (.int j) = .ok (.bl (decide (j ≤ i))) := rfl
@[simp] theorem in_sign {n : Nat} : inD (.str [n]) (.str t) = .ok (.bl (decide (n ∈ t))) := rfl
@[simp] theorem is_non : isD .non .non = .ok (.bl true) := rfl
@[simp] theorem is_tup : isD (.tup ds) .non = .ok (.bl false) := rfl
@[simp] theorem is_int : isD (.int i) .non = .ok (.bl false) := rfl
@[simp] theorem is_str : isD (.str s) .non = .ok (.bl false) := rfl
@[simp] theorem is_lst : isD (.lst ds) .non = .ok (.bl false) := rfl
@[simp] theorem isNot_eq : isNotD a b = (isD a b).bind notD := rfl
@[simp] theorem notIn_eq : notInD a b = (inD a b).bind notD := rfl
@[simp] theorem not_bl {k : Bool} : notD (.bl k) = .ok (.bl (!k)) := rfl
@[simp] theorem len_str : lenF [.str s] = .ok (.int s.length) := rfl
@[simp] theorem len_tup : lenF [.tup ds] = .ok (.int ds.length) := rfl
@[simp] theorem len_lst : lenF [.lst ds] = .ok (.int ds.length) := rfl
@[simp] theorem len_scr {ns : List Int} : lenF [.scr ns] = .ok (.int ns.length) := rfl
@[simp] theorem max_eq : maxF [.int i, .int j] = .ok (.int (if j > i then j else i)) := rfl
@[simp] theorem min_eq : minF [.int i, .int j] = .ok (.int (if j < i then j else i)) := rfl
@[simp] theorem tuple_lst : tupleF [.lst ds] = .ok (.tup ds) := rfl
@[simp] theorem sl_tup {l h : Option Int} : slD (.tup ds) l h = .ok (.tup (cutL ds l h)) := rfl
@[simp] theorem sl_lst {l h : Option Int} : slD (.lst ds) l h = .ok (.lst (cutL ds l h)) := rfl
@[simp] theorem sl_str {l h : Option Int} : slD (.str s) l h = .ok (.str (cutL s l h)) := rfl
@[simp] theorem rev_lst : revD (.lst ds) = .ok (.lst ds.reverse) := rfl
@[simp] theorem isi_int {T : String} : isiF T (.int i) = .ok (.bl (isiB "int" T)) := rfl
@[simp] theorem isi_bl {T : String} {k : Bool} : isiF T (.bl k) = .ok (.bl (isiB "bool" T)) := rfl
@[simp] theorem isi_str {T : String} : isiF T (.str s) = .ok (.bl (isiB "str" T)) := rfl
@[simp] theorem isi_tup {T : String} : isiF T (.tup ds) = .ok (.bl (isiB "tuple" T)) := rfl
@[simp] theorem isi_lst {T : String} : isiF T (.lst ds) = .ok (.bl (isiB "list" T)) := rfl
@[simp] theorem isi_non {T : String} : isiF T .non = .ok (.bl (isiB "NoneType" T)) := rfl
@[simp] theorem isiB_self {T : String} : isiB T T = true := by simp [isiB]
@[simp] theorem isiB_1 : isiB "int" "bool" = false := by decide
@[simp] theorem isiB_2 : isiB "bool" "int" = true := by decide
@[simp] theorem starts_str : startsS s (.str t) = .ok (.bl (t.isPrefixOf s)) := rfl
@[simp] theorem asInts_nil : asInts [] = some [] := rfl
@[simp] theorem enumF_lst : enumF [.lst ds] = .ok (enumFrom 0 ds) := rfl
@[simp] theorem zipF_lst : zipF [.lst ds, .lst es] = .ok (zipD ds es) := rfl
@[simp] theorem rng1_int : rng1F [.int i] = if -1000000 ≤ i ∧ i ≤ 1000000 then .ok (upTo 0 i.toNat) else .stk := rfl
@[simp] theorem rng2_int : rng2F [.int i, .int j] = if -1000000 ≤ i ∧ i ≤ 1000000 ∧ j ≤ 1000000 ∧ -1000000 ≤ j then .ok (upTo i (j - i).toNat) else .stk := rfl
@[simp] theorem oR_some {α : Type} {x : α} : oR (some x) = .ok x := rfl
theorem asInts_map (ns : List Int) : asInts (ns.map .int) = some ns := by
  induction ns with
  | nil => rfl
  | cons n ns ih => simp [asInts, ih]
theorem asBls_map (ns : List Bool) : asBls (ns.map .bl) = some ns := by
  induction ns with
  | nil => rfl
  | cons n ns ih => simp [asBls, ih]
theorem asStrs_map (ns : List (List Nat)) : asStrs (ns.map .str) = some ns := by
  induction ns with
  | nil => rfl
  | cons n ns ih => simp [asStrs, ih]
@[simp] theorem all_map {α : Type} (p : α → Bool) (l : List α) : allF [.lst (l.map fun x => .bl (p x))] = .ok (.bl (l.all p)) := by
  have : (l.map fun x => D.bl (p x)) = (l.map p).map .bl := by simp
  simp only [allF, this, asBls_map, oR_some, Res.bind_ok]
  simp [List.all_map]
@[simp] theorem any_map {α : Type} (p : α → Bool) (l : List α) : anyF [.lst (l.map fun x => .bl (p x))] = .ok (.bl (l.any p)) := by
  have : (l.map fun x => D.bl (p x)) = (l.map p).map .bl := by simp
  simp only [anyF, this, asBls_map, oR_some, Res.bind_ok]
  simp [List.any_map]
@[simp] theorem sum_tup (l : List Int) : sumF [.tup (l.map .int)] = .ok (.int l.sum) := by simp [sumF, asInts_map]
@[simp] theorem sum_lst (l : List Int) : sumF [.lst (l.map .int)] = .ok (.int l.sum) := by simp [sumF, asInts_map]
@[simp] theorem sort_lst (l : List Int) : sortF [.lst (l.map .int)] = .ok (.lst ((l.mergeSort leI).map .int)) := by simp [sortF, asInts_map]
end
/-! statements -/
def Out.seq (r : Out) (b : EnvS → Out) : Out := match r with
  | .next ρ => b ρ
  | r => r
def Res.out {α : Type} (r : Res α) (f : α → Out) : Out := match r with
  | .ok a => f a
  | .exc c => .exc c
  | .stk => .stk
section
variable {ρ ρ' : EnvS} {a b : EnvS → Out} {vs : List Nat} {mt : EnvD → Res Bool} {me : EnvD → Res D} {ml : EnvD → Res (List D)} {mi : EnvD → Res (List D)} {i : Nat} {d : D}
@[simp] theorem seq_next : (Out.next ρ).seq b = b ρ := rfl
@[simp] theorem seq_ret : (Out.ret d).seq b = .ret d := rfl
@[simp] theorem seq_brk : (Out.brk ρ).seq b = .brk ρ := rfl
@[simp] theorem seq_cont : (Out.cont ρ).seq b = .cont ρ := rfl
@[simp] theorem out_ok {α : Type} {x : α} {f : α → Out} : (Res.ok x).out f = f x := rfl
@[simp] theorem sSeq_eq : sSeq a b ρ = (a ρ).seq b := by unfold sSeq Out.seq; rfl
@[simp] theorem sNil_eq : sNil ρ = .next ρ := rfl
@[simp] theorem sPass_eq : sPass ρ = .next ρ := rfl
@[simp] theorem sBrk_eq : sBrk ρ = .brk ρ := rfl
@[simp] theorem sCont_eq : sCont ρ = .cont ρ := rfl
@[simp] theorem sIf_eq : sIf vs mt a b ρ = (mt (vis (freeze vs ρ))).out fun k => if k = true then a ρ else b ρ := by unfold sIf Res.out; generalize mt (vis (freeze vs ρ)) = z; cases z <;> rfl
@[simp] theorem sRet_eq : sRet vs me ρ = (me (vis (freeze vs ρ))).out fun d => .ret d := by unfold sRet Res.out; generalize me (vis (freeze vs ρ)) = z; cases z <;> rfl
@[simp] theorem sDrop_eq : sDrop vs me ρ = (me (vis (freeze vs ρ))).out fun _ => .next ρ := by unfold sDrop Res.out; generalize me (vis (freeze vs ρ)) = z; cases z <;> rfl
@[simp] theorem sAsg_eq : sAsg vs i me ρ = (me (vis (freeze vs ρ))).out fun d => .next ((if isFlat d = true then ρ else freeze vs ρ).set i (.val d)) := by unfold sAsg Res.out; generalize me (vis (freeze vs ρ)) = z; cases z <;> rfl
@[simp] theorem sOwn_eq : sOwn vs i ml ρ = (ml (vis (freeze vs ρ))).out fun ds => .next ((if ds.all isFlat = true then ρ else freeze vs ρ).set i (.own ds)) := by unfold sOwn Res.out; generalize ml (vis (freeze vs ρ)) = z; cases z <;> rfl
@[simp] theorem sFor_eq {g : Tg} : sFor vs g mi b ρ = (mi (vis (freeze vs ρ))).out fun ds => forS g b ds (freeze vs ρ) := by unfold sFor Res.out; generalize mi (vis (freeze vs ρ)) = z; cases z <;> rfl
@[simp] theorem sForR_eq {g : Tg} : sForR vs g mi b ρ = (mi (vis (freeze vs ρ))).out fun ds => forS g b ds ρ := by unfold sForR Res.out; generalize mi (vis (freeze vs ρ)) = z; cases z <;> rfl
@[simp] theorem sAsgT_eq {g : Tg} : sAsgT vs g me ρ = (me (vis (freeze vs ρ))).out fun d => match bindT g d (freeze vs ρ) with
    | some ρ' => .next ρ'
    | none => .stk := by unfold sAsgT Res.out; generalize me (vis (freeze vs ρ)) = z; cases z <;> rfl
@[simp] theorem freeze_nil : freeze [] ρ = ρ := by simp only [freeze]
theorem freeze_own {is : List Nat} {ds : List D} (h : ρ[i]? = some (.own ds)) : freeze (i :: is) ρ = freeze is (ρ.set i (.val (.lst ds))) := by simp only [freeze, h]
@[simp] theorem flat_non : isFlat .non = true := rfl
@[simp] theorem flat_int {j : Int} : isFlat (.int j) = true := rfl
@[simp] theorem flat_bl {k : Bool} : isFlat (.bl k) = true := rfl
@[simp] theorem flat_str {s : List Nat} : isFlat (.str s) = true := rfl
@[simp] theorem flat_tup {ds : List D} : isFlat (.tup ds) = false := rfl
@[simp] theorem flat_lst {ds : List D} : isFlat (.lst ds) = false := rfl
@[simp] theorem toRes_ret : toRes (.ret d) = .ok d := rfl
@[simp] theorem toRes_next : toRes (.next ρ) = .ok .non := rfl
@[simp] theorem forS_nil {g : Tg} : forS g b [] ρ = .next ρ := rfl
end
/-- a comprehension over things of one kind -/
theorem lcG_map {g : Tg} {mt : EnvD → Res Bool} {me : EnvD → Res D} {ρ : EnvD} {α : Type} (f : α → D) (p : α → Bool) (q : α → D) : ∀ l : List α, (∀ x ∈ l, ∃ ρ1, bindT g (f x) (inj ρ) = some ρ1 ∧ mt (vis ρ1) = .ok (p x) ∧ (p x = true → me (vis ρ1) = .ok (q x))) → lcG g mt me ρ (l.map f) = .ok ((l.filter p).map q)
  | [], _ => rfl
  | x :: l, h => by
    obtain ⟨ρ1, h1, h2, h3⟩ := h x List.mem_cons_self
    have ih := lcG_map f p q l fun y hy => h y (List.mem_cons_of_mem _ hy)
    rw [List.map_cons, lcG, h1]
    simp only [h2, Res.nox_ok, Res.bind_ok]
    by_cases e : p x = true
    · rw [if_pos e, h3 e, ih, List.filter_cons_of_pos e]; rfl
    · rw [if_neg e, ih, List.filter_cons_of_neg e]
/-- one without a test -/
theorem lcG_all {g : Tg} {me : EnvD → Res D} {ρ : EnvD} {α : Type} (f q : α → D) (l : List α) (h : ∀ x ∈ l, ∃ ρ1, bindT g (f x) (inj ρ) = some ρ1 ∧ me (vis ρ1) = .ok (q x)) : lcG g bYes me ρ (l.map f) = .ok (l.map q) := by
  have := lcG_map (mt := bYes) f (fun _ => true) q l fun x hx => let ⟨ρ1, h1, h2⟩ := h x hx; ⟨ρ1, h1, rfl, fun _ => h2⟩
  rwa [List.filter_eq_self.mpr fun _ _ => rfl] at this
/-- a loop that keeps a word -/
theorem forS_inv {g : Tg} {body : EnvS → Out} {α : Type} (f : α → D) (I : Nat → EnvS → Prop) : ∀ (l : List α) (n : Nat) (ρ : EnvS), I n ρ →
    (∀ (k : Nat) (x : α) (ρ : EnvS), l[k]? = some x → I (n + k) ρ → ∃ ρ1 ρ2, bindT g (f x) ρ = some ρ1 ∧ (body ρ1 = .next ρ2 ∨ body ρ1 = .cont ρ2) ∧ I (n + k + 1) ρ2) → ∃ ρ', forS g body (l.map f) ρ = .next ρ' ∧ I (n + l.length) ρ'
  | [], n, ρ, h, _ => ⟨ρ, rfl, h⟩
  | x :: l, n, ρ, h, st => by
    obtain ⟨ρ1, ρ2, h1, h2, h3⟩ := st 0 x ρ rfl h
    obtain ⟨ρ', e, h4⟩ := forS_inv f I l (n + 1) ρ2 h3 fun k y ρ3 hy hI => by
      have := st (k + 1) y ρ3 (by simpa using hy) (by rw [show n + (k + 1) = n + 1 + k by omega]; exact hI)
      rwa [show n + (k + 1) = n + 1 + k by omega] at this
    refine ⟨ρ', ?_, by rw [List.length_cons, show n + (l.length + 1) = n + 1 + l.length by omega]; exact h4⟩
    rw [List.map_cons, forS, h1]
    rcases h2 with h2 | h2
    · simp only [h2]; exact e
    · simp only [h2]; exact e
theorem enumFrom_map {α : Type} (f : α → D) : ∀ (l : List α) (n : Nat), enumFrom n (l.map f) = (l.zipIdx n).map fun p => .tup [.int (p.2 : Nat), f p.1]
  | [], _ => rfl
  | x :: l, n => by simp [enumFrom, enumFrom_map f l (n + 1), List.zipIdx_cons]
theorem zipD_map {α β : Type} (f : α → D) (g : β → D) : ∀ (l : List α) (m : List β), zipD (l.map f) (m.map g) = (l.zip m).map fun p => .tup [f p.1, g p.2]
  | [], _ => by simp [zipD]
  | _ :: _, [] => by simp [zipD]
  | x :: l, y :: m => by simp [zipD, zipD_map f g l m]
/-! equality -/
open PySem in
@[simp] theorem eqv_str (s t : List Nat) : D.eqv (.str s) (.str t) = decide (s = t) := by
  unfold D.eqv
  simp only [D.toPy, PyData.eqv]
  by_cases h : s = t
  · subst h; simp
  · have : (⟨s.toArray⟩ : Str) ≠ ⟨t.toArray⟩ := fun e => h (by simpa using congrArg (fun z : Str => z.cps.toList) e)
    simp [h, this]
open PySem in
@[simp] theorem eqv_int (i j : Int) : D.eqv (.int i) (.int j) = decide (i = j) := by
  unfold D.eqv
  simp only [D.toPy, PyData.eqv]
  by_cases h : i = j <;> simp [h]
@[simp] theorem eqv_non : D.eqv .non .non = true := by unfold D.eqv; simp [D.toPy, PySem.PyData.eqv]
@[simp] theorem eqv_bl (a b : Bool) : D.eqv (.bl a) (.bl b) = (a == b) := by unfold D.eqv; simp [D.toPy, PySem.PyData.eqv]
def eqvL : List D → List D → Bool
  | [], [] => true | x :: xs, y :: ys => D.eqv x y && eqvL xs ys | _, _ => false
theorem eqvL_eq : ∀ xs ys : List D, PySem.PyData.eqvAll (toPys xs) (toPys ys) = eqvL xs ys
  | [], [] => by simp [toPys, PySem.PyData.eqvAll, eqvL]
  | [], _ :: _ => by simp [toPys, PySem.PyData.eqvAll, eqvL]
  | _ :: _, [] => by simp [toPys, PySem.PyData.eqvAll, eqvL]
  | x :: xs, y :: ys => by simp [toPys, PySem.PyData.eqvAll, eqvL, eqvL_eq xs ys, D.eqv]
@[simp] theorem eqv_tup (xs ys : List D) : D.eqv (.tup xs) (.tup ys) = eqvL xs ys := by
  rw [← eqvL_eq]; unfold D.eqv; simp [D.toPy, PySem.PyData.eqv]
@[simp] theorem eqv_lst (xs ys : List D) : D.eqv (.lst xs) (.lst ys) = eqvL xs ys := by
  rw [← eqvL_eq]; unfold D.eqv; simp [D.toPy, PySem.PyData.eqv]
@[simp] theorem eqvL_nil : eqvL [] [] = true := rfl
@[simp] theorem eqvL_cons (x y : D) (xs ys : List D) : eqvL (x :: xs) (y :: ys) = (D.eqv x y && eqvL xs ys) := rfl
@[simp] theorem eqvL_nc (y : D) (ys : List D) : eqvL [] (y :: ys) = false := rfl
@[simp] theorem eqvL_cn (x : D) (xs : List D) : eqvL (x :: xs) [] = false := rfl
@[simp] theorem eqvL_map_nil {α : Type} (f : α → D) (l : List α) : eqvL (l.map f) [] = l.isEmpty := by cases l <;> rfl
theorem scr_lst (ns : List Int) : (D.scr ns).toPy = (D.lst (ns.map .int)).toPy := by
  have : ∀ ns : List Int, toPys (ns.map .int) = ns.map PySem.PyData.int := fun ns => by
    induction ns with
    | nil => simp [toPys]
    | cons n ns ih => simp [toPys, ih, D.toPy]
  simp [D.toPy, this]
@[simp] theorem eqv_scr_nil (ns : List Int) : D.eqv (.scr ns) (.lst []) = ns.isEmpty := by
  have : D.eqv (.scr ns) (.lst []) = D.eqv (.lst (ns.map .int)) (.lst []) := by unfold D.eqv; rw [scr_lst]
  rw [this]
  cases ns <;> simp
@[simp] theorem eqv_ns (s : List Nat) : D.eqv .non (.str s) = false := by unfold D.eqv; simp [D.toPy, PySem.PyData.eqv]
/-- kinds of things that are data -/
class Dat (α : Type) where
  d : α → D
  r : Nat
  eqv : ∀ x y : α, D.eqv (d x) (d y) = true ↔ x = y
  rk : ∀ x, (d x).rk ≤ r
@[simp] theorem rk_str (s : List Nat) : (D.str s).rk = 0 := by simp [D.rk]
@[simp] theorem rk_int (i : Int) : (D.int i).rk = 0 := by simp [D.rk]
@[simp] theorem rk_bl (i : Bool) : (D.bl i).rk = 0 := by simp [D.rk]
@[simp] theorem rk_non : D.non.rk = 0 := by simp [D.rk]
@[simp] theorem rk_scr (ns : List Int) : (D.scr ns).rk = 1 := by simp [D.rk]
@[simp] theorem rk_tup (xs : List D) : (D.tup xs).rk = rks xs + 1 := by simp [D.rk]
@[simp] theorem rk_lst (xs : List D) : (D.lst xs).rk = rks xs + 1 := by simp [D.rk]
@[simp] theorem rks_nil : rks [] = 0 := by simp [rks]
@[simp] theorem rks_cons' (x : D) (xs : List D) : rks (x :: xs) = max x.rk (rks xs) := by simp [rks]
theorem rks_le {xs : List D} {n : Nat} (h : ∀ x ∈ xs, x.rk ≤ n) : rks xs ≤ n := by
  induction xs with
  | nil => simp
  | cons x xs ih =>
    have h1 := h x List.mem_cons_self
    have h2 := ih fun y hy => h y (List.mem_cons_of_mem _ hy)
    simp; omega
theorem rks_map {α : Type} [Dat α] (l : List α) : rks (l.map Dat.d) ≤ Dat.r α := rks_le fun x hx => by
  obtain ⟨y, _, rfl⟩ := List.mem_map.mp hx
  exact Dat.rk y
theorem eqvL_map {α : Type} [Dat α] : ∀ l m : List α, eqvL (l.map Dat.d) (m.map Dat.d) = true ↔ l = m
  | [], [] => by simp
  | [], _ :: _ => by simp
  | _ :: _, [] => by simp
  | x :: l, y :: m => by simp [Dat.eqv, eqvL_map l m]
instance : Dat Int := ⟨.int, 0, fun x y => by simp, fun x => by simp⟩
instance datStr : Dat (List Nat) := ⟨.str, 0, fun x y => by simp, fun x => by simp⟩
instance datLst {α : Type} [Dat α] : Dat (List α) := ⟨fun l => .lst (l.map Dat.d), Dat.r α + 1, fun x y => by simp [eqvL_map], fun l => by simp; exact rks_map l⟩
instance datPair {α β : Type} [Dat α] [Dat β] : Dat (α × β) := ⟨fun p => .tup [Dat.d p.1, Dat.d p.2], max (Dat.r α) (Dat.r β) + 1, fun x y => by simp [Dat.eqv, Prod.ext_iff], fun p => by
  have h1 := Dat.rk p.1
  have h2 := Dat.rk p.2
  simp; omega⟩
/-- a tuple of any length -/
structure Tp (α : Type) where
  l : List α
deriving DecidableEq
instance datTp {α : Type} [Dat α] : Dat (Tp α) := ⟨fun l => .tup (l.l.map Dat.d), Dat.r α + 1, fun x y => by cases x; cases y; simp [eqvL_map], fun l => by simp; exact rks_map l.l⟩
theorem eqv_dat {α : Type} [DecidableEq α] [Dat α] (x y : α) : D.eqv (Dat.d x) (Dat.d y) = decide (x = y) := by
  rw [Bool.eq_iff_iff, Dat.eqv]; simp
theorem eqD_of {a b : D} (ha : a.rk ≤ 60) (hb : b.rk ≤ 60) : eqD a b = .ok (.bl (D.eqv a b)) := if_pos ⟨ha, hb⟩
theorem neD_of {a b : D} (ha : a.rk ≤ 60) (hb : b.rk ≤ 60) : neD a b = .ok (.bl (!D.eqv a b)) := if_pos ⟨ha, hb⟩
theorem eqD_dat {α : Type} [DecidableEq α] [Dat α] (x y : α) (h : Dat.r α ≤ 60 := by decide) : eqD (Dat.d x) (Dat.d y) = .ok (.bl (decide (x = y))) := by
  rw [eqD_of (Nat.le_trans (Dat.rk x) h) (Nat.le_trans (Dat.rk y) h), eqv_dat]
theorem neD_dat {α : Type} [DecidableEq α] [Dat α] (x y : α) (h : Dat.r α ≤ 60 := by decide) : neD (Dat.d x) (Dat.d y) = .ok (.bl (decide (x ≠ y))) := by
  rw [neD_of (Nat.le_trans (Dat.rk x) h) (Nat.le_trans (Dat.rk y) h), eqv_dat]
  by_cases e : x = y <;> simp [e]
@[simp] theorem eqD_int (i j : Int) : eqD (.int i) (.int j) = .ok (.bl (decide (i = j))) := eqD_dat i j
@[simp] theorem eqD_str (s t : List Nat) : eqD (.str s) (.str t) = .ok (.bl (decide (s = t))) := eqD_dat s t
@[simp] theorem neD_int (i j : Int) : neD (.int i) (.int j) = .ok (.bl (decide (i ≠ j))) := neD_dat i j
@[simp] theorem neD_str (s t : List Nat) : neD (.str s) (.str t) = .ok (.bl (decide (s ≠ t))) := neD_dat s t
theorem memD_dat {α : Type} [Dat α] (x : α) (l : List α) [Decidable (x ∈ l)] : memD (Dat.d x) (l.map Dat.d) = decide (x ∈ l) := by
  unfold memD
  rw [List.any_map, Bool.eq_iff_iff, List.any_eq_true]
  simp [Dat.eqv]
theorem inD_lst {x : D} {ds : List D} (h : x.rk ≤ 60) (h' : rks ds ≤ 59) (n : ∀ c z, x = .str [c] → D.lst ds ≠ .str z := by intro c z _ e; cases e) : inD x (.lst ds) = .ok (.bl (memD x ds)) := by
  have : (D.lst ds).rk ≤ 60 := by simp; omega
  have e : inD x (.lst ds) = if x.rk ≤ 60 ∧ (D.lst ds).rk ≤ 60 then .ok (.bl (memD x ds)) else .stk := by
    cases x with
    | str s => cases s with
      | nil => rfl
      | cons c s => cases s <;> rfl
    | _ => rfl
  rw [e, if_pos ⟨h, this⟩]
theorem inD_dat {α : Type} [Dat α] (x : α) (l : List α) [Decidable (x ∈ l)] (h : Dat.r α ≤ 59 := by decide) : inD (Dat.d x) (.lst (l.map Dat.d)) = .ok (.bl (decide (x ∈ l))) := by
  rw [inD_lst (Nat.le_trans (Dat.rk x) (by omega)) (Nat.le_trans (rks_map l) h), memD_dat]
/-! items -/
open L2 in
theorem ix_tup {ds : List D} {i : Int} {d : D} (h : atI ds i = some d) : ixD (.tup ds) (.int i) = .ok d := by simp [ixD, h, oR]
open L2 in
theorem ix_lst {ds : List D} {i : Int} {d : D} (h : atI ds i = some d) : ixD (.lst ds) (.int i) = .ok d := by simp [ixD, h, oR]
open L2 in
theorem ix_scr {ns : List Int} {i d : Int} (h : atI ns i = some d) : ixD (.scr ns) (.int i) = .ok (.int d) := by simp [ixD, h, oR]
open L2 in
theorem ix_str {s : List Nat} {i : Int} {c : Nat} (h : atI s i = some c) : ixD (.str s) (.int i) = .ok (.str [c]) := by simp [ixD, h, oR]
open L2 in
theorem atI_nat {α : Type} (xs : List α) (k : Nat) : atI xs (k : Int) = xs[k]? := by
  unfold atI ixN
  rw [if_pos (by omega)]
  by_cases h : (k : Int) < xs.length
  · rw [if_pos h]; simp
  · rw [if_neg h]; simp; omega
open L2 in
theorem atI_pos {α : Type} (xs : List α) {i : Int} (h0 : 0 ≤ i) (h : i < xs.length) : atI xs i = some (xs[i.toNat]'(by omega)) := by
  obtain ⟨k, rfl⟩ : ∃ k : Nat, i = k := ⟨i.toNat, by omega⟩
  rw [atI_nat]
  simp [show k < xs.length by omega]
section
variable {a b c d e : D} {ds : List D}
theorem ixT_nat (k : Nat) (h : ds[k]? = some a) : ixD (.tup ds) (.int (k : Nat)) = .ok a := ix_tup (by rw [atI_nat, h])
theorem ixL_nat (k : Nat) (h : ds[k]? = some a) : ixD (.lst ds) (.int (k : Nat)) = .ok a := ix_lst (by rw [atI_nat, h])
@[simp] theorem ixT0 : ixD (.tup (a :: ds)) (.int 0) = .ok a := ixT_nat 0 rfl
@[simp] theorem ixT1 : ixD (.tup (a :: b :: ds)) (.int 1) = .ok b := ixT_nat 1 rfl
@[simp] theorem ixT2 : ixD (.tup (a :: b :: c :: ds)) (.int 2) = .ok c := ixT_nat 2 rfl
@[simp] theorem ixT3 : ixD (.tup (a :: b :: c :: d :: ds)) (.int 3) = .ok d := ixT_nat 3 rfl
@[simp] theorem ixT4 : ixD (.tup (a :: b :: c :: d :: e :: ds)) (.int 4) = .ok e := ixT_nat 4 rfl
@[simp] theorem ixL0 : ixD (.lst (a :: ds)) (.int 0) = .ok a := ixL_nat 0 rfl
@[simp] theorem ixS0 {x : Nat} {s : List Nat} : ixD (.str (x :: s)) (.int 0) = .ok (.str [x]) := ix_str (by rw [show (0 : Int) = ((0 : Nat) : Int) from rfl, atI_nat]; rfl)
end
/-! parts -/
open L2 in
theorem cut_to_last {α : Type} (xs : List α) : cutL xs none (some (-1)) = xs.dropLast := by
  unfold cutL
  simp only [HT.sIx]
  rw [if_pos (by decide), List.dropLast_eq_take]
  simp only [List.drop_zero, Nat.sub_zero]
  congr 1
  omega
theorem cut_from {α : Type} (xs : List α) (k : Nat) : cutL xs (some (k : Int)) none = xs.drop k := by
  unfold cutL
  simp only [HT.sIx]
  rw [if_neg (by omega)]
  simp only [Int.toNat_natCast]
  rw [List.take_of_length_le (by simp)]
  rcases Nat.le_total k xs.length with h | h
  · rw [Nat.min_eq_left h]
  · rw [Nat.min_eq_right h, List.drop_eq_nil_of_le (Nat.le_refl _), List.drop_eq_nil_of_le h]
theorem cut_to {α : Type} (xs : List α) (k : Nat) : cutL xs none (some (k : Int)) = xs.take k := by
  unfold cutL
  simp only [HT.sIx]
  rw [if_neg (by omega)]
  simp only [Int.toNat_natCast, List.drop_zero, Nat.sub_zero]
  rcases Nat.le_total k xs.length with h | h
  · rw [Nat.min_eq_left h]
  · rw [Nat.min_eq_right h, List.take_of_length_le (Nat.le_refl _), List.take_of_length_le h]
theorem cut_map {α β : Type} (f : α → β) (xs : List α) (l h : Option Int) : cutL (xs.map f) l h = (cutL xs l h).map f := by
  unfold cutL
  simp [List.map_take, List.map_drop]
def optD {α : Type} [Dat α] : Option α → D
  | none => .non
  | some x => Dat.d x
@[simp] theorem optD_none {α : Type} [Dat α] : optD (none : Option α) = .non := rfl
@[simp] theorem optD_some {α : Type} [Dat α] (x : α) : optD (some x) = Dat.d x := rfl
theorem rk_dat {α : Type} [Dat α] (x : α) (h : Dat.r α ≤ 60 := by decide) : (Dat.d x).rk ≤ 60 := Nat.le_trans (Dat.rk x) h
theorem rk_map {α : Type} [Dat α] (l : List α) (h : Dat.r α ≤ 59 := by decide) : (D.lst (l.map Dat.d)).rk ≤ 60 := by
  rw [rk_lst]
  have := rks_map l
  omega
theorem neD_nil {α : Type} [Dat α] (l : List α) (h : Dat.r α ≤ 59 := by decide) : neD (.lst (l.map Dat.d)) (.lst []) = .ok (.bl (!l.isEmpty)) := by
  rw [neD_of (rk_map l h) (by simp)]; simp
theorem eqD_nil {α : Type} [Dat α] (l : List α) (h : Dat.r α ≤ 59 := by decide) : eqD (.lst (l.map Dat.d)) (.lst []) = .ok (.bl l.isEmpty) := by
  rw [eqD_of (rk_map l h) (by simp)]; simp
theorem upTo0 (n : Nat) : upTo 0 n = (List.range n).map fun i : Nat => .int (i : Int) := by
  unfold upTo; simp
/-! exceptions, lambdas, sorted -/
section
variable {ρ : EnvS} {ρd : EnvD} {a b : EnvS → Out} {c : String} {vs : List Nat} {me mb : EnvD → Res D} {mr : EnvD → Res (List D)} {d : D} {ds : List D} {wd : String → Option (List Nat)}
@[simp] theorem seq_exc : (Out.exc c).seq b = .exc c := rfl
@[simp] theorem out_exc {α : Type} {f : α → Out} : (Res.exc c : Res α).out f = .exc c := rfl
@[simp] theorem toRes_exc : toRes (.exc c) = .exc c := rfl
@[simp] theorem sRaise_eq : sRaise c ρ = .exc c := rfl
@[simp] theorem mTold_eq : mTold wd me ρd = told wd (me ρd) := rfl
@[simp] theorem told_okR : told wd (.ok d) = .ok d := rfl
theorem told_excR : told wd (.exc c) = (oR (wd c)).bind fun z => .ok (.str z) := rfl
@[simp] theorem mL1_eq {f : List D → D → Res D} : mL1 f me mb ρd = (me ρd).bind fun a => (asL a).bind fun z => (mb ρd).bind (f z) := rfl
@[simp] theorem asL_lst : asL (.lst ds) = .ok ds := rfl
end
/-! sorted -/
@[simp] theorem mul_str {s : List Nat} {n : Int} : mulD (.str s) (.int n) = if -LIM ≤ n ∧ n ≤ LIM ∧ s.length * n.toNat ≤ LIM then .ok (.str (repS n s)) else .stk := rfl
@[simp] theorem mul_lst {s : List D} {n : Int} : mulD (.lst s) (.int n) = if -LIM ≤ n ∧ n ≤ LIM ∧ s.length * n.toNat ≤ LIM then .ok (.lst (List.replicate n.toNat s).flatten) else .stk := rfl
open PySem PyProof.Rows L2 LamX in
theorem ix_last {ds : List D} (h : ds ≠ []) : ixD (.lst ds) (.int (-1)) = .ok (ds.getLast h) := by
  refine ix_lst ?_
  have hl : 0 < ds.length := List.length_pos_iff.mpr h
  rw [List.getLast_eq_getElem]
  unfold atI ixN
  rw [if_neg (by decide)]
  rw [if_pos (by omega)]
  simp only [Option.bind_some]
  rw [show ((-1 : Int) + (ds.length : Int)).toNat = ds.length - 1 by omega, List.getElem?_eq_getElem (by omega)]
open PySem PyProof.Rows in
theorem leQ_tup {i j : Int} {xs ys : List D} (h : i ≠ j) : leQ (.tup (.int i :: xs)) (.tup (.int j :: ys)) = decide (i ≤ j) := by
  unfold leQ PySem.W.dataLt
  simp only [D.toPy, toPys, PySem.W.keyToks, PySem.W.keyToksAll, List.singleton_append]
  rw [lex_self, lex_diff (fun e => h (by injection e with e; exact e.symm))]
  show (!decide (j < i)) = _
  by_cases c : i ≤ j <;> simp [c] <;> omega
open PySem PyProof.Rows in
theorem leQ_self (a : D) : leQ a a = true := by
  unfold leQ PySem.W.dataLt
  rw [lex_irrefl]; rfl
end DL
namespace DL
open PySem PySem.Spec PyProof.Rows L2 LamX
section
variable {P : Program} {w : World} {K : PySem.W.Frag} {h : Heap} {mg : Str → Option Value} {base : Heap} {T : List (Addr × Str)}
theorem g_WAYS (KX : K.In h) (GG : h.Ns mainGlobals mg) (c : He.SaysD fa fn K) (tg : gtB K = true) : GTup K mg "WAYS" ws_WAYS := gtup_of (He.glo_ok KX GG (c.fact 26 (f := .glo "WAYS") rfl)) tg (by decide +kernel) (by decide) (by decide +kernel)
theorem f_range (KX : K.In h) (GG : h.Ns mainGlobals mg) (c : He.SaysD fa fn K) : mg "range" = none := He.free_ok KX GG (c.fact 0 (f := .free "range") rfl)
theorem f_max (KX : K.In h) (GG : h.Ns mainGlobals mg) (c : He.SaysD fa fn K) : mg "max" = none := He.free_ok KX GG (c.fact 1 (f := .free "max") rfl)
theorem f_min (KX : K.In h) (GG : h.Ns mainGlobals mg) (c : He.SaysD fa fn K) : mg "min" = none := He.free_ok KX GG (c.fact 2 (f := .free "min") rfl)
theorem f_len (KX : K.In h) (GG : h.Ns mainGlobals mg) (c : He.SaysD fa fn K) : mg "len" = none := He.free_ok KX GG (c.fact 3 (f := .free "len") rfl)
theorem f_isinstance (KX : K.In h) (GG : h.Ns mainGlobals mg) (c : He.SaysD fa fn K) : mg "isinstance" = none := He.free_ok KX GG (c.fact 4 (f := .free "isinstance") rfl)
theorem f_str (KX : K.In h) (GG : h.Ns mainGlobals mg) (c : He.SaysD fa fn K) : mg "str" = none := He.free_ok KX GG (c.fact 5 (f := .free "str") rfl)
theorem f_tuple (KX : K.In h) (GG : h.Ns mainGlobals mg) (c : He.SaysD fa fn K) : mg "tuple" = none := He.free_ok KX GG (c.fact 6 (f := .free "tuple") rfl)
theorem f_MOST_LANDS (KX : K.In h) (GG : h.Ns mainGlobals mg) (c : He.SaysD fa fn K) : ∃ t, mg "MOST_LANDS" = some (.int 6 t) := He.int_ok KX GG (c.fact 7 (f := .int "MOST_LANDS" 6) rfl)
theorem f_all (KX : K.In h) (GG : h.Ns mainGlobals mg) (c : He.SaysD fa fn K) : mg "all" = none := He.free_ok KX GG (c.fact 8 (f := .free "all") rfl)
theorem f_zip (KX : K.In h) (GG : h.Ns mainGlobals mg) (c : He.SaysD fa fn K) : mg "zip" = none := He.free_ok KX GG (c.fact 9 (f := .free "zip") rfl)
theorem f_MOST_ROWS (KX : K.In h) (GG : h.Ns mainGlobals mg) (c : He.SaysD fa fn K) : ∃ t, mg "MOST_ROWS" = some (.int 8 t) := He.int_ok KX GG (c.fact 10 (f := .int "MOST_ROWS" 8) rfl)
theorem f_set (KX : K.In h) (GG : h.Ns mainGlobals mg) (c : He.SaysD fa fn K) : mg "set" = none := He.free_ok KX GG (c.fact 11 (f := .free "set") rfl)
theorem f_FIGURES (KX : K.In h) (GG : h.Ns mainGlobals mg) (c : He.SaysD fa fn K) : ∃ t, mg "FIGURES" = some (.str ⟨([48, 49, 50, 51, 52, 53, 54, 55, 56, 57] : List Nat).toArray⟩ t) := He.str_ok KX GG (c.fact 12 (f := .str "FIGURES" "0123456789") rfl)
theorem f_MOST_BEGIN (KX : K.In h) (GG : h.Ns mainGlobals mg) (c : He.SaysD fa fn K) : ∃ t, mg "MOST_BEGIN" = some (.int 4 t) := He.int_ok KX GG (c.fact 13 (f := .int "MOST_BEGIN" 4) rfl)
theorem f_MOST_SIZE (KX : K.In h) (GG : h.Ns mainGlobals mg) (c : He.SaysD fa fn K) : ∃ t, mg "MOST_SIZE" = some (.int 12 t) := He.int_ok KX GG (c.fact 14 (f := .int "MOST_SIZE" 12) rfl)
theorem f_LEAST_SIZE (KX : K.In h) (GG : h.Ns mainGlobals mg) (c : He.SaysD fa fn K) : ∃ t, mg "LEAST_SIZE" = some (.int 3 t) := He.int_ok KX GG (c.fact 15 (f := .int "LEAST_SIZE" 3) rfl)
theorem f_sum (KX : K.In h) (GG : h.Ns mainGlobals mg) (c : He.SaysD fa fn K) : mg "sum" = none := He.free_ok KX GG (c.fact 16 (f := .free "sum") rfl)
theorem f_int (KX : K.In h) (GG : h.Ns mainGlobals mg) (c : He.SaysD fa fn K) : mg "int" = none := He.free_ok KX GG (c.fact 17 (f := .free "int") rfl)
theorem f_bool (KX : K.In h) (GG : h.Ns mainGlobals mg) (c : He.SaysD fa fn K) : mg "bool" = none := He.free_ok KX GG (c.fact 18 (f := .free "bool") rfl)
theorem f_MOST_KIND (KX : K.In h) (GG : h.Ns mainGlobals mg) (c : He.SaysD fa fn K) : ∃ t, mg "MOST_KIND" = some (.int 8 t) := He.int_ok KX GG (c.fact 19 (f := .int "MOST_KIND" 8) rfl)
theorem f_SMALL (KX : K.In h) (GG : h.Ns mainGlobals mg) (c : He.SaysD fa fn K) : ∃ t, mg "SMALL" = some (.str ⟨([97, 98, 99, 100, 101, 102, 103, 104, 105, 106, 107, 108, 109, 110, 111, 112, 113, 114, 115, 116, 117, 118, 119, 120, 121, 122] : List Nat).toArray⟩ t) := He.str_ok KX GG (c.fact 20 (f := .str "SMALL" "abcdefghijklmnopqrstuvwxyz") rfl)
theorem f_sorted (KX : K.In h) (GG : h.Ns mainGlobals mg) (c : He.SaysD fa fn K) : mg "sorted" = none := He.free_ok KX GG (c.fact 21 (f := .free "sorted") rfl)
theorem f_MOST_TEXT (KX : K.In h) (GG : h.Ns mainGlobals mg) (c : He.SaysD fa fn K) : ∃ t, mg "MOST_TEXT" = some (.int 60 t) := He.int_ok KX GG (c.fact 22 (f := .int "MOST_TEXT" 60) rfl)
theorem f_BETWEEN (KX : K.In h) (GG : h.Ns mainGlobals mg) (c : He.SaysD fa fn K) : ∃ t, mg "BETWEEN" = some (.str ⟨([32, 45, 46, 47, 40, 41] : List Nat).toArray⟩ t) := He.str_ok KX GG (c.fact 23 (f := .str "BETWEEN" " -./()") rfl)
theorem f_any (KX : K.In h) (GG : h.Ns mainGlobals mg) (c : He.SaysD fa fn K) : mg "any" = none := He.free_ok KX GG (c.fact 24 (f := .free "any") rfl)
theorem f_enumerate (KX : K.In h) (GG : h.Ns mainGlobals mg) (c : He.SaysD fa fn K) : mg "enumerate" = none := He.free_ok KX GG (c.fact 25 (f := .free "enumerate") rfl)
theorem sc_is_figures : FnScope ["thing", "low", "high", "sign"] ["thing", "low", "high"] (d_is_figures).scope := ⟨rfl, rfl, rfl, by decide +kernel, rfl, by decide +kernel, by decide +kernel⟩
theorem ok_is_figures (KX : K.In h) (GG : h.Ns mainGlobals mg) (c : He.SaysD fa fn K) (C : ClsX K csN) (tg : gtB K = true) (lt : LTs T mg base K tq) : Fn P w K mg base T "is_figures" 1 3 den_is_figures := by
  obtain ⟨fd, F⟩ := c.def_ 0 (d := d_is_figures) rfl
  have nd := sc_is_figures.nd
  exact fn_of (ps := ["thing", "low", "high"]) F (He.glo_ok KX GG (c.fact 27 (f := .glo "is_figures") rfl)) (F.bindsN fun _ _ _ _ _ _ us hl => match us, hl with | [_, _, _], _ => rfl) (fn_run (N := ["thing", "low", "high", "sign"]) F sc_is_figures (by decide) fun cdv A outer s H E hr h65 hx hp tk =>
    q_one (q_ret [] (d_and (d_isi rfl (f_isinstance KX GG c) (dv 0) (pe_tyn rfl (f_str KX GG c) bo_str)) (d_and (d_chain op_leAll op_leAll a_le a_le (dv 1) (d_callB call_len a_len rfl (f_len KX GG c) bo_len (da_cons (dv 0) (da_nil))) (dv 2)) (d_and1 (d_callB (cr_all rfl) a_all rfl (f_all KX GG c) bo_all (da_cons (d_lc (own := [("sign", 3)]) rfl nd (i_str (dv 0)) (blkOk_by (N := ["thing", "low", "high", "sign"]) (sc := d_is_figures.scope) (by decide +kernel)) (by decide) (fun _ _ _ _ _ => g_nm (i := 3) nd rfl (by first | exact .inl rfl | exact .inr rfl)) (fun _ _ _ _ _ => ts_nil) (fun _ _ _ _ _ => d_cmp (op_inAll h65) a_in (dv 3) (d_gstr (f_FIGURES KX GG c)) (by with_unfolding_all rfl))) (da_nil))))))))
theorem sc_is_count : FnScope ["thing", "low", "high"] ["thing", "low", "high"] (d_is_count).scope := ⟨rfl, rfl, rfl, by decide +kernel, rfl, by decide +kernel, by decide +kernel⟩
theorem ok_is_count (KX : K.In h) (GG : h.Ns mainGlobals mg) (c : He.SaysD fa fn K) (C : ClsX K csN) (tg : gtB K = true) (lt : LTs T mg base K tq) : Fn P w K mg base T "is_count" 1 3 den_is_count := by
  obtain ⟨fd, F⟩ := c.def_ 1 (d := d_is_count) rfl
  have nd := sc_is_count.nd
  exact fn_of (ps := ["thing", "low", "high"]) F (He.glo_ok KX GG (c.fact 28 (f := .glo "is_count") rfl)) (F.bindsN fun _ _ _ _ _ _ us hl => match us, hl with | [_, _, _], _ => rfl) (fn_run (N := ["thing", "low", "high"]) F sc_is_count (by decide) fun cdv A outer s H E hr h65 hx hp tk =>
    q_one (q_ret [] (d_and (d_isi rfl (f_isinstance KX GG c) (dv 0) (pe_tyn rfl (f_int KX GG c) bo_int)) (d_and (d_not (d_isi rfl (f_isinstance KX GG c) (dv 0) (pe_tyn rfl (f_bool KX GG c) bo_bool))) (d_and1 (d_chain op_leAll op_leAll a_le a_le (dv 1) (dv 0) (dv 2)))))))
theorem sc_is_kind : FnScope ["thing", "sign"] ["thing"] (d_is_kind).scope := ⟨rfl, rfl, rfl, by decide +kernel, rfl, by decide +kernel, by decide +kernel⟩
theorem ok_is_kind (KX : K.In h) (GG : h.Ns mainGlobals mg) (c : He.SaysD fa fn K) (C : ClsX K csN) (tg : gtB K = true) (lt : LTs T mg base K tq) : Fn P w K mg base T "is_kind" 1 1 den_is_kind := by
  obtain ⟨fd, F⟩ := c.def_ 2 (d := d_is_kind) rfl
  have nd := sc_is_kind.nd
  exact fn_of (ps := ["thing"]) F (He.glo_ok KX GG (c.fact 29 (f := .glo "is_kind") rfl)) (F.bindsN fun _ _ _ _ _ _ us hl => match us, hl with | [_], _ => rfl) (fn_run (N := ["thing", "sign"]) F sc_is_kind (by decide) fun cdv A outer s H E hr h65 hx hp tk =>
    q_one (q_ret [] (d_and (d_isi rfl (f_isinstance KX GG c) (dv 0) (pe_tyn rfl (f_str KX GG c) bo_str)) (d_and (d_chain op_leAll op_leAll a_le a_le (d_int) (d_callB call_len a_len rfl (f_len KX GG c) bo_len (da_cons (dv 0) (da_nil))) (d_gint (f_MOST_KIND KX GG c))) (d_and1 (d_callB (cr_all rfl) a_all rfl (f_all KX GG c) bo_all (da_cons (d_lc (own := [("sign", 1)]) rfl nd (i_str (dv 0)) (blkOk_by (N := ["thing", "sign"]) (sc := d_is_kind.scope) (by decide +kernel)) (by decide) (fun _ _ _ _ _ => g_nm (i := 1) nd rfl (by first | exact .inl rfl | exact .inr rfl)) (fun _ _ _ _ _ => ts_nil) (fun _ _ _ _ _ => d_cmp (op_inAll h65) a_in (dv 1) (d_gstr (f_SMALL KX GG c)) (by with_unfolding_all rfl))) (da_nil))))))))
theorem sc_is_row : FnScope ["thing", "one"] ["thing"] (d_is_row).scope := ⟨rfl, rfl, rfl, by decide +kernel, rfl, by decide +kernel, by decide +kernel⟩
theorem ok_is_row (KX : K.In h) (GG : h.Ns mainGlobals mg) (c : He.SaysD fa fn K) (C : ClsX K csN) (tg : gtB K = true) (lt : LTs T mg base K tq) : Fn P w K mg base T "is_row" 2 1 den_is_row := by
  obtain ⟨fd, F⟩ := c.def_ 3 (d := d_is_row) rfl
  have nd := sc_is_row.nd
  exact fn_of (ps := ["thing"]) F (He.glo_ok KX GG (c.fact 30 (f := .glo "is_row") rfl)) (F.bindsN fun _ _ _ _ _ _ us hl => match us, hl with | [_], _ => rfl) (fn_run (N := ["thing", "one"]) F sc_is_row (by decide) fun cdv A outer s H E hr h65 hx hp tk =>
    q_cons (q_if [] (PW.pt (t_or (t_not (t_val (d_isi rfl (f_isinstance KX GG c) (dv 0) (pe_tyn rfl (f_tuple KX GG c) bo_tuple)))) (t_or1 (t_cmp (op_neD (u64 h65)) a_ne (d_callB call_len a_len rfl (f_len KX GG c) bo_len (da_cons (dv 0) (da_nil))) (d_int) (nomark _))))) (q_one (q_ret [] (d_bl))) (q_nil))
      (q_cons (q_if [] (PW.pt (t_or (t_not (t_val (d_call (ok_is_kind KX GG c C tg lt) (hr.mono (by decide)) rfl hx (da_cons (d_ix (dv 0) (d_int) (fun _ _ => rfl)) (da_nil)) (aCons_len aNil_len)))) (t_or1 (t_not (t_val (d_call (ok_is_figures KX GG c C tg lt) (hr.mono (by decide)) rfl hx (da_cons (d_ix (dv 0) (d_int) (fun _ _ => rfl)) (da_cons (d_int) (da_cons (d_gint (f_MOST_BEGIN KX GG c)) (da_nil)))) (aCons_len (aCons_len (aCons_len aNil_len))))))))) (q_one (q_ret [] (d_bl))) (q_nil))
      (q_cons (q_if [] (PW.pt (t_or (t_not (t_val (d_call (ok_is_count KX GG c C tg lt) (hr.mono (by decide)) rfl hx (da_cons (d_ix (dv 0) (d_int) (fun _ _ => rfl)) (da_cons (d_callB (call_max2 rfl) a_max2 rfl (f_max KX GG c) bo_max (da_cons (d_gint (f_LEAST_SIZE KX GG c)) (da_cons (d_op op_addAll a_add (d_callB call_len a_len rfl (f_len KX GG c) bo_len (da_cons (d_ix (dv 0) (d_int) (fun _ _ => rfl)) (da_nil))) (d_int)) (da_nil)))) (da_cons (d_gint (f_MOST_SIZE KX GG c)) (da_nil)))) (aCons_len (aCons_len (aCons_len aNil_len)))))) (t_or1 (t_not (t_val (d_isi rfl (f_isinstance KX GG c) (d_ix (dv 0) (d_int) (fun _ _ => rfl)) (pe_tyn rfl (f_tuple KX GG c) bo_tuple))))))) (q_one (q_ret [] (d_bl))) (q_nil))
      (q_one (q_ret [] (d_and (d_cmp (op_neD (u64 h65)) a_ne (d_ix (dv 0) (d_int) (fun _ _ => rfl)) (d_tup (da_nil)) (nomark _)) (d_and (d_callB (cr_all rfl) a_all rfl (f_all KX GG c) bo_all (da_cons (d_lc (own := [("one", 1)]) rfl nd (i_tup (d_ix (dv 0) (d_int) (fun _ _ => rfl))) (blkOk_by (N := ["thing", "one"]) (sc := d_is_row.scope) (by decide +kernel)) (by decide) (fun _ _ _ _ _ => g_nm (i := 1) nd rfl (by first | exact .inl rfl | exact .inr rfl)) (fun _ _ _ _ _ => ts_nil) (fun _ _ _ _ _ => d_call (ok_is_count KX GG c C tg lt) (hr.mono (by decide)) rfl passN (da_cons (dv 1) (da_cons (d_int) (da_cons (d_gint (f_MOST_SIZE KX GG c)) (da_nil)))) (aCons_len (aCons_len (aCons_len aNil_len))))) (da_nil))) (d_and1 (d_cmp (op_eqD (u64 h65)) a_eq (d_callB (cr_sumAll rfl) a_sum rfl (f_sum KX GG c) bo_sum (da_cons (d_ix (dv 0) (d_int) (fun _ _ => rfl)) (da_nil))) (d_ix (dv 0) (d_int) (fun _ _ => rfl)) (nomark _))))))))))
theorem sc_is_land : FnScope ["thing", "row"] ["thing"] (d_is_land).scope := ⟨rfl, rfl, rfl, by decide +kernel, rfl, by decide +kernel, by decide +kernel⟩
theorem ok_is_land (KX : K.In h) (GG : h.Ns mainGlobals mg) (c : He.SaysD fa fn K) (C : ClsX K csN) (tg : gtB K = true) (lt : LTs T mg base K tq) : Fn P w K mg base T "is_land" 3 1 den_is_land := by
  obtain ⟨fd, F⟩ := c.def_ 4 (d := d_is_land) rfl
  have nd := sc_is_land.nd
  exact fn_of (ps := ["thing"]) F (He.glo_ok KX GG (c.fact 31 (f := .glo "is_land") rfl)) (F.bindsN fun _ _ _ _ _ _ us hl => match us, hl with | [_], _ => rfl) (fn_run (N := ["thing", "row"]) F sc_is_land (by decide) fun cdv A outer s H E hr h65 hx hp tk =>
    q_cons (q_if [] (PW.pt (t_or (t_not (t_val (d_isi rfl (f_isinstance KX GG c) (dv 0) (pe_tyn rfl (f_tuple KX GG c) bo_tuple)))) (t_or (t_cmp (op_neD (u64 h65)) a_ne (d_callB call_len a_len rfl (f_len KX GG c) bo_len (da_cons (dv 0) (da_nil))) (d_int) (nomark _)) (t_or (t_not (t_val (d_call (ok_is_figures KX GG c C tg lt) (hr.mono (by decide)) rfl hx (da_cons (d_ix (dv 0) (d_int) (fun _ _ => rfl)) (da_cons (d_int) (da_cons (d_int) (da_nil)))) (aCons_len (aCons_len (aCons_len aNil_len)))))) (t_or1 (t_cmp (op_eqD (u64 h65)) a_eq (d_ix (d_ix (dv 0) (d_int) (fun _ _ => rfl)) (d_int) (fun _ _ => rfl)) (d_str) (nomark _))))))) (q_one (q_ret [] (d_bl))) (q_nil))
      (q_cons (q_if [] (PW.pt (t_or (t_not (t_val (d_call (ok_is_figures KX GG c C tg lt) (hr.mono (by decide)) rfl hx (da_cons (d_ix (dv 0) (d_int) (fun _ _ => rfl)) (da_cons (d_int) (da_cons (d_int) (da_nil)))) (aCons_len (aCons_len (aCons_len aNil_len)))))) (t_or (t_not (t_val (d_call (ok_is_figures KX GG c C tg lt) (hr.mono (by decide)) rfl hx (da_cons (d_ix (dv 0) (d_int) (fun _ _ => rfl)) (da_cons (d_int) (da_cons (d_int) (da_nil)))) (aCons_len (aCons_len (aCons_len aNil_len)))))) (t_or1 (t_not (t_val (d_isi rfl (f_isinstance KX GG c) (d_ix (dv 0) (d_int) (fun _ _ => rfl)) (pe_tyn rfl (f_tuple KX GG c) bo_tuple)))))))) (q_one (q_ret [] (d_bl))) (q_nil))
      (q_cons (q_if [] (PW.pt (t_or (t_not (t_chain op_leAll op_leAll a_le a_le (d_int) (d_callB call_len a_len rfl (f_len KX GG c) bo_len (da_cons (d_ix (dv 0) (d_int) (fun _ _ => rfl)) (da_nil))) (d_gint (f_MOST_ROWS KX GG c)))) (t_or1 (t_not (t_val (d_callB (cr_all rfl) a_all rfl (f_all KX GG c) bo_all (da_cons (d_lc (own := [("row", 1)]) rfl nd (i_tup (d_ix (dv 0) (d_int) (fun _ _ => rfl))) (blkOk_by (N := ["thing", "row"]) (sc := d_is_land.scope) (by decide +kernel)) (by decide) (fun _ _ _ _ _ => g_nm (i := 1) nd rfl (by first | exact .inl rfl | exact .inr rfl)) (fun _ _ _ _ _ => ts_nil) (fun _ _ _ _ _ => d_call (ok_is_row KX GG c C tg lt) (hr.mono (by decide)) rfl passN (da_cons (dv 1) (da_nil)) (aCons_len aNil_len))) (da_nil)))))))) (q_one (q_ret [] (d_bl))) (q_nil))
      (q_one (q_ret [] (d_cmp (op_eqD (u64 h65)) a_eq (d_lenSet rfl (f_len KX GG c) rfl (f_set KX GG c) rfl (u64 h65) (da_cons (d_lc (own := [("row", 1)]) rfl nd (i_tup (d_ix (dv 0) (d_int) (fun _ _ => rfl))) (blkOk_by (N := ["thing", "row"]) (sc := d_is_land.scope) (by decide +kernel)) (by decide) (fun _ _ _ _ _ => g_nm (i := 1) nd rfl (by first | exact .inl rfl | exact .inr rfl)) (fun _ _ _ _ _ => ts_nil) (fun _ _ _ _ _ => d_sl (dv 1) (o_some (d_int)) (o_some (d_int)))) (da_nil))) (d_callB call_len a_len rfl (f_len KX GG c) bo_len (da_cons (d_ix (dv 0) (d_int) (fun _ _ => rfl)) (da_nil))) (nomark _)))))))
theorem sc_is_book : FnScope ["thing", "codes", "land", "one", "other"] ["thing"] (d_is_book).scope := ⟨rfl, rfl, rfl, by decide +kernel, rfl, by decide +kernel, by decide +kernel⟩
theorem ok_is_book (KX : K.In h) (GG : h.Ns mainGlobals mg) (c : He.SaysD fa fn K) (C : ClsX K csN) (tg : gtB K = true) (lt : LTs T mg base K tq) : Fn P w K mg base T "is_book" 4 1 den_is_book := by
  obtain ⟨fd, F⟩ := c.def_ 5 (d := d_is_book) rfl
  have nd := sc_is_book.nd
  exact fn_of (ps := ["thing"]) F (He.glo_ok KX GG (c.fact 32 (f := .glo "is_book") rfl)) (F.bindsN fun _ _ _ _ _ _ us hl => match us, hl with | [_], _ => rfl) (fn_run (N := ["thing", "codes", "land", "one", "other"]) F sc_is_book (by decide) fun cdv A outer s H E hr h65 hx hp tk =>
    q_cons (q_if [] (PW.pt (t_or (t_not (t_val (d_isi rfl (f_isinstance KX GG c) (dv 0) (pe_tyn rfl (f_tuple KX GG c) bo_tuple)))) (t_or1 (t_not (t_chain op_leAll op_leAll a_le a_le (d_int) (d_callB call_len a_len rfl (f_len KX GG c) bo_len (da_cons (dv 0) (da_nil))) (d_gint (f_MOST_LANDS KX GG c))))))) (q_one (q_ret [] (d_bl))) (q_nil))
      (q_cons (q_if [] (t_not (t_val (d_callB (cr_all rfl) a_all rfl (f_all KX GG c) bo_all (da_cons (d_lc (own := [("land", 2)]) rfl nd (i_tup (dv 0)) (blkOk_by (N := ["thing", "codes", "land", "one", "other"]) (sc := d_is_book.scope) (by decide +kernel)) (by decide) (fun _ _ _ _ _ => g_nm (i := 2) nd rfl (by first | exact .inl rfl | exact .inr rfl)) (fun _ _ _ _ _ => ts_nil) (fun _ _ _ _ _ => d_call (ok_is_land KX GG c C tg lt) (hr.mono (by decide)) rfl passN (da_cons (dv 2) (da_nil)) (aCons_len aNil_len))) (da_nil))))) (q_one (q_ret [] (d_bl))) (q_nil))
      (q_cons (q_asgLc [] (i := 1) rfl rfl (sw_true rfl rfl rfl (by decide +kernel)) (own := [("land", 2)]) rfl nd (i_tup (dv 0)) (blkOk_by (N := ["thing", "codes", "land", "one", "other"]) (sc := d_is_book.scope) (by decide +kernel)) (by decide) (fun _ _ _ _ _ => g_nm (i := 2) nd rfl (by first | exact .inl rfl | exact .inr rfl)) (fun _ _ _ _ _ => ts_nil) (fun _ _ _ _ _ => d_ix (dv 2) (d_int) (fun _ _ => rfl)))
      (q_one (q_ret [] (d_callB (cr_all rfl) a_all rfl (f_all KX GG c) bo_all (da_cons (d_lc (own := [("one", 3), ("other", 4)]) rfl nd (i_zip rfl (f_zip KX GG c) (da_cons (d_sl (dv 1) (o_none) (o_some (d_neg (d_int)))) (da_cons (d_sl (dv 1) (o_some (d_int)) (o_none)) (da_nil)))) (blkOk_by (N := ["thing", "codes", "land", "one", "other"]) (sc := d_is_book.scope) (by decide +kernel)) (by decide) (fun _ _ _ _ _ => g_tp rfl (gs_cons (g_nm (i := 3) nd rfl (by first | exact .inl rfl | exact .inr rfl)) (gs_cons (g_nm (i := 4) nd rfl (by first | exact .inl rfl | exact .inr rfl)) (gs_nil)))) (fun _ _ _ _ _ => ts_nil) (fun _ _ _ _ _ => d_and (d_cmp (op_ltAll (u0 h65)) a_lt (dv 3) (dv 4) (nomark _)) (d_and1 (d_not (d_starts (dv 4) (dv 3)))))) (da_nil))))))))
theorem sc_need_book : FnScope ["book"] ["book"] (d_need_book).scope := ⟨rfl, rfl, rfl, by decide +kernel, rfl, by decide +kernel, by decide +kernel⟩
theorem ok_need_book (KX : K.In h) (GG : h.Ns mainGlobals mg) (c : He.SaysD fa fn K) (C : ClsX K csN) (tg : gtB K = true) (lt : LTs T mg base K tq) : Fn P w K mg base T "need_book" 5 1 den_need_book := by
  obtain ⟨fd, F⟩ := c.def_ 6 (d := d_need_book) rfl
  have nd := sc_need_book.nd
  exact fn_of (ps := ["book"]) F (He.glo_ok KX GG (c.fact 33 (f := .glo "need_book") rfl)) (F.bindsN fun _ _ _ _ _ _ us hl => match us, hl with | [_], _ => rfl) (fn_run (N := ["book"]) F sc_need_book (by decide) fun cdv A outer s H E hr h65 hx hp tk =>
    q_one (q_if [] (t_not (t_val (d_call (ok_is_book KX GG c C tg lt) (hr.mono (by decide)) rfl hx (da_cons (dv 0) (da_nil)) (aCons_len aNil_len)))) (q_one (q_never)) (q_nil)))
theorem sc_land_of : FnScope ["book", "code", "found", "land"] ["book", "code"] (d_land_of).scope := ⟨rfl, rfl, rfl, by decide +kernel, rfl, by decide +kernel, by decide +kernel⟩
theorem ok_land_of (KX : K.In h) (GG : h.Ns mainGlobals mg) (c : He.SaysD fa fn K) (C : ClsX K csN) (tg : gtB K = true) (lt : LTs T mg base K tq) : Fn P w K mg base T "land_of" 1 2 den_land_of := by
  obtain ⟨fd, F⟩ := c.def_ 7 (d := d_land_of) rfl
  have nd := sc_land_of.nd
  exact fn_of (ps := ["book", "code"]) F (He.glo_ok KX GG (c.fact 34 (f := .glo "land_of") rfl)) (F.bindsN fun _ _ _ _ _ _ us hl => match us, hl with | [_, _], _ => rfl) (fn_run (N := ["book", "code", "found", "land"]) F sc_land_of (by decide) fun cdv A outer s H E hr h65 hx hp tk =>
    q_cons (q_asgLc [] (i := 2) rfl rfl (sw_true rfl rfl rfl (by decide +kernel)) (own := [("land", 3)]) rfl nd (i_tup (dv 0)) (blkOk_by (N := ["book", "code", "found", "land"]) (sc := d_land_of.scope) (by decide +kernel)) (by decide) (fun _ _ _ _ _ => g_nm (i := 3) nd rfl (by first | exact .inl rfl | exact .inr rfl)) (fun _ _ _ _ _ => ts_one (t_cmp (op_eqD (u64 h65)) a_eq (d_ix (dv 3) (d_int) (fun _ _ => rfl)) (dv 1) (nomark _))) (fun _ _ _ _ _ => dv 3))
      (q_one (q_ret [] (d_if (t_cmp (op_neD (u64 h65)) a_ne (dv 2) (d_lst (da_nil)) (nomark _)) (d_ix (dv 2) (d_int) (fun _ _ => rfl)) (d_non)))))
theorem sc_need_land : FnScope ["book", "code"] ["book", "code"] (d_need_land).scope := ⟨rfl, rfl, rfl, by decide +kernel, rfl, by decide +kernel, by decide +kernel⟩
theorem ok_need_land (KX : K.In h) (GG : h.Ns mainGlobals mg) (c : He.SaysD fa fn K) (C : ClsX K csN) (tg : gtB K = true) (lt : LTs T mg base K tq) : Fn P w K mg base T "need_land" 6 2 den_need_land := by
  obtain ⟨fd, F⟩ := c.def_ 8 (d := d_need_land) rfl
  have nd := sc_need_land.nd
  exact fn_of (ps := ["book", "code"]) F (He.glo_ok KX GG (c.fact 35 (f := .glo "need_land") rfl)) (F.bindsN fun _ _ _ _ _ _ us hl => match us, hl with | [_, _], _ => rfl) (fn_run (N := ["book", "code"]) F sc_need_land (by decide) fun cdv A outer s H E hr h65 hx hp tk =>
    q_cons (q_drop [] (d_call (ok_need_book KX GG c C tg lt) (hr.mono (by decide)) rfl hx (da_cons (dv 0) (da_nil)) (aCons_len aNil_len)))
      (q_one (q_if [] (PW.pt (t_or (t_not (t_val (d_isi rfl (f_isinstance KX GG c) (dv 1) (pe_tyn rfl (f_str KX GG c) bo_str)))) (t_or1 (t_cmp op_isN a_is (d_call (ok_land_of KX GG c C tg lt) (hr.mono (by decide)) rfl hx (da_cons (dv 0) (da_cons (dv 1) (da_nil))) (aCons_len (aCons_len aNil_len))) (d_non) (nomark _))))) (q_one (q_never)) (q_nil))))
theorem sc_row_of : FnScope ["land", "digits", "found", "row"] ["land", "digits"] (d_row_of).scope := ⟨rfl, rfl, rfl, by decide +kernel, rfl, by decide +kernel, by decide +kernel⟩
theorem ok_row_of (KX : K.In h) (GG : h.Ns mainGlobals mg) (c : He.SaysD fa fn K) (C : ClsX K csN) (tg : gtB K = true) (lt : LTs T mg base K tq) : Fn P w K mg base T "row_of" 1 2 den_row_of := by
  obtain ⟨fd, F⟩ := c.def_ 9 (d := d_row_of) rfl
  have nd := sc_row_of.nd
  exact fn_of (ps := ["land", "digits"]) F (He.glo_ok KX GG (c.fact 36 (f := .glo "row_of") rfl)) (F.bindsN fun _ _ _ _ _ _ us hl => match us, hl with | [_, _], _ => rfl) (fn_run (N := ["land", "digits", "found", "row"]) F sc_row_of (by decide) fun cdv A outer s H E hr h65 hx hp tk =>
    q_cons (q_asg [] (i := 2) nd rfl (by first | exact .inl rfl | exact .inr rfl) (d_non))
      (q_cons (q_for [] hp rfl (i_tup (d_ix (dv 0) (d_int) (fun _ _ => rfl))) (g_nm (i := 3) nd rfl (by first | exact .inl rfl | exact .inr rfl)) (q_one (q_if [] (PW.pt (t_and (t_cmp (op_eqD (u64 h65)) a_eq (d_callB call_len a_len rfl (f_len KX GG c) bo_len (da_cons (dv 1) (da_nil))) (d_ix (dv 3) (d_int) (fun _ _ => rfl)) (nomark _)) (t_and1 (t_val (d_starts (dv 1) (d_ix (dv 3) (d_int) (fun _ _ => rfl))))))) (q_one (q_if [] (PW.pt (t_or (t_cmp op_isN a_is (dv 2) (d_non) (nomark _)) (t_or1 (t_cmp op_gtAll a_gt (d_callB call_len a_len rfl (f_len KX GG c) bo_len (da_cons (d_ix (dv 3) (d_int) (fun _ _ => rfl)) (da_nil))) (d_callB call_len a_len rfl (f_len KX GG c) bo_len (da_cons (d_ix (dv 2) (d_int) (fun _ _ => rfl)) (da_nil))) (nomark _))))) (q_one (q_asg [] (i := 2) nd rfl (by first | exact .inl rfl | exact .inr rfl) (dv 3))) (q_nil))) (q_nil))))
      (q_one (q_ret [] (dv 2)))))
theorem sc_has_number : FnScope ["book", "thing", "land"] ["book", "thing"] (d_has_number).scope := ⟨rfl, rfl, rfl, by decide +kernel, rfl, by decide +kernel, by decide +kernel⟩
theorem ok_has_number (KX : K.In h) (GG : h.Ns mainGlobals mg) (c : He.SaysD fa fn K) (C : ClsX K csN) (tg : gtB K = true) (lt : LTs T mg base K tq) : Fn P w K mg base T "has_number" 2 2 den_has_number := by
  obtain ⟨fd, F⟩ := c.def_ 10 (d := d_has_number) rfl
  have nd := sc_has_number.nd
  exact fn_of (ps := ["book", "thing"]) F (He.glo_ok KX GG (c.fact 37 (f := .glo "has_number") rfl)) (F.bindsN fun _ _ _ _ _ _ us hl => match us, hl with | [_, _], _ => rfl) (fn_run (N := ["book", "thing", "land"]) F sc_has_number (by decide) fun cdv A outer s H E hr h65 hx hp tk =>
    q_cons (q_if [] (PW.pt (t_or (t_not (t_val (d_isi rfl (f_isinstance KX GG c) (dv 1) (pe_tyn rfl (f_tuple KX GG c) bo_tuple)))) (t_or (t_cmp (op_neD (u64 h65)) a_ne (d_callB call_len a_len rfl (f_len KX GG c) bo_len (da_cons (dv 1) (da_nil))) (d_int) (nomark _)) (t_or1 (t_not (t_val (d_isi rfl (f_isinstance KX GG c) (d_ix (dv 1) (d_int) (fun _ _ => rfl)) (pe_tyn rfl (f_str KX GG c) bo_str)))))))) (q_one (q_ret [] (d_bl))) (q_nil))
      (q_cons (q_asg [] (i := 2) nd rfl (by first | exact .inl rfl | exact .inr rfl) (d_call (ok_land_of KX GG c C tg lt) (hr.mono (by decide)) rfl hx (da_cons (dv 0) (da_cons (d_ix (dv 1) (d_int) (fun _ _ => rfl)) (da_nil))) (aCons_len (aCons_len aNil_len))))
      (q_one (q_ret [] (d_and (d_cmp op_notN a_isNot (dv 2) (d_non) (nomark _)) (d_and (d_call (ok_is_figures KX GG c C tg lt) (hr.mono (by decide)) rfl hx (da_cons (d_ix (dv 1) (d_int) (fun _ _ => rfl)) (da_cons (d_gint (f_LEAST_SIZE KX GG c)) (da_cons (d_gint (f_MOST_SIZE KX GG c)) (da_nil)))) (aCons_len (aCons_len (aCons_len aNil_len)))) (d_and1 (d_cmp op_notN a_isNot (d_call (ok_row_of KX GG c C tg lt) (hr.mono (by decide)) rfl hx (da_cons (dv 2) (da_cons (d_ix (dv 1) (d_int) (fun _ _ => rfl)) (da_nil))) (aCons_len (aCons_len aNil_len))) (d_non) (nomark _)))))))))
theorem sc_need : FnScope ["good"] ["good"] (d_need).scope := ⟨rfl, rfl, rfl, by decide +kernel, rfl, by decide +kernel, by decide +kernel⟩
theorem ok_need (KX : K.In h) (GG : h.Ns mainGlobals mg) (c : He.SaysD fa fn K) (C : ClsX K csN) (tg : gtB K = true) (lt : LTs T mg base K tq) : Fn P w K mg base T "need" 1 1 den_need := by
  obtain ⟨fd, F⟩ := c.def_ 11 (d := d_need) rfl
  have nd := sc_need.nd
  exact fn_of (ps := ["good"]) F (He.glo_ok KX GG (c.fact 38 (f := .glo "need") rfl)) (F.bindsN fun _ _ _ _ _ _ us hl => match us, hl with | [_], _ => rfl) (fn_run (N := ["good"]) F sc_need (by decide) fun cdv A outer s H E hr h65 hx hp tk =>
    q_one (q_if [] (t_not (t_val (dv 0))) (q_one (q_never)) (q_nil)))
theorem sc_pieces_of : FnScope ["text", "rest", "is_plus", "pieces", "is_open", "sign", "piece", "figures", "is_own"] ["text"] (d_pieces_of).scope := ⟨rfl, rfl, rfl, by decide +kernel, rfl, by decide +kernel, by decide +kernel⟩
theorem ok_pieces_of (KX : K.In h) (GG : h.Ns mainGlobals mg) (c : He.SaysD fa fn K) (C : ClsX K csN) (tg : gtB K = true) (lt : LTs T mg base K tq) : Fn P w K mg base T "pieces_of" 2 1 den_pieces_of := by
  obtain ⟨fd, F⟩ := c.def_ 12 (d := d_pieces_of) rfl
  have nd := sc_pieces_of.nd
  exact fn_of (ps := ["text"]) F (He.glo_ok KX GG (c.fact 39 (f := .glo "pieces_of") rfl)) (F.bindsN fun _ _ _ _ _ _ us hl => match us, hl with | [_], _ => rfl) (fn_run (N := ["text", "rest", "is_plus", "pieces", "is_open", "sign", "piece", "figures", "is_own"]) F sc_pieces_of (by decide) fun cdv A outer s H E hr h65 hx hp tk =>
    q_cons (q_drop [] (d_call (ok_need KX GG c C tg lt) (hr.mono (by decide)) rfl hx (da_cons (d_and (d_isi rfl (f_isinstance KX GG c) (dv 0) (pe_tyn rfl (f_str KX GG c) bo_str)) (d_and1 (d_cmp op_leAll a_le (d_callB call_len a_len rfl (f_len KX GG c) bo_len (da_cons (dv 0) (da_nil))) (d_gint (f_MOST_TEXT KX GG c)) (nomark _)))) (da_nil)) (aCons_len aNil_len)))
      (q_cons (q_asg [] (i := 1) nd rfl (by first | exact .inl rfl | exact .inr rfl) (d_strip (dv 0) (d_str)))
      (q_cons (q_asg [] (i := 2) nd rfl (by first | exact .inl rfl | exact .inr rfl) (d_cmp (op_eqD (u64 h65)) a_eq (d_sl (dv 1) (o_none) (o_some (d_int))) (d_str) (nomark _)))
      (q_cons (q_asg [] (i := 1) nd rfl (by first | exact .inl rfl | exact .inr rfl) (d_if (t_val (dv 2)) (d_sl (dv 1) (o_some (d_int)) (o_none)) (dv 1)))
      (q_cons (q_parS (i := 3) (j := 4) [] rfl nd rfl rfl (by decide) rfl rfl (sl_l1 (f_lst (da_cons (d_str) (da_cons (d_bl) (da_nil))))) (sl_val (d_bl)))
      (q_cons (q_for [] hp rfl (i_str (dv 1)) (g_nm (i := 5) nd rfl (by first | exact .inl rfl | exact .inr rfl)) (q_cons (q_drop [] (d_call (ok_need KX GG c C tg lt) (hr.mono (by decide)) rfl hx (da_cons (d_or (d_cmp (op_inAll h65) a_in (dv 5) (d_gstr (f_FIGURES KX GG c)) (by with_unfolding_all rfl)) (d_and1 (d_cmp (op_inAll h65) a_in (dv 5) (d_gstr (f_BETWEEN KX GG c)) (by with_unfolding_all rfl)))) (da_nil)) (aCons_len aNil_len)))
      (q_one (q_if [] (t_cmp (op_inAll h65) a_in (dv 5) (d_gstr (f_FIGURES KX GG c)) (by with_unfolding_all rfl)) (q_one (q_put2 [3] (i := 3) (pv 3) (d_neg (d_int)) (d_int) (d_op op_addAll a_add (d_ix (d_ix (dv 3) (d_neg (d_int)) (fun _ _ => rfl)) (d_int) (fun _ _ => rfl)) (dv 5)))) (q_one (q_if [] (t_cmp (op_eqD (u64 h65)) a_eq (dv 5) (d_str) (nomark _)) (q_cons (q_drop [] (d_call (ok_need KX GG c C tg lt) (hr.mono (by decide)) rfl hx (da_cons (d_not (dv 4)) (da_nil)) (aCons_len aNil_len)))
      (q_cons (q_asg [] (i := 4) nd rfl (by first | exact .inl rfl | exact .inr rfl) (d_bl))
      (q_one (q_appT [] (pv 3) (f_lst (da_cons (d_str) (da_cons (d_bl) (da_nil)))))))) (q_one (q_if [] (t_cmp (op_eqD (u64 h65)) a_eq (dv 5) (d_str) (nomark _)) (q_cons (q_drop [3] (d_call (ok_need KX GG c C tg lt) (hr.mono (by decide)) rfl hx (da_cons (d_and (dv 4) (d_and1 (d_cmp (op_neD (u64 h65)) a_ne (d_ix (d_ix (dv 3) (d_neg (d_int)) (fun _ _ => rfl)) (d_int) (fun _ _ => rfl)) (d_str) (nomark _)))) (da_nil)) (aCons_len aNil_len)))
      (q_cons (q_asg [] (i := 4) nd rfl (by first | exact .inl rfl | exact .inr rfl) (d_bl))
      (q_one (q_appT [] (pv 3) (f_lst (da_cons (d_str) (da_cons (d_bl) (da_nil)))))))) (q_nil)))))))))
      (q_cons (q_drop [3] (d_call (ok_need KX GG c C tg lt) (hr.mono (by decide)) rfl hx (da_cons (d_and (d_not (dv 4)) (d_and1 (d_callB (cr_any rfl) a_any rfl (f_any KX GG c) bo_any (da_cons (d_lc (own := [("piece", 6)]) rfl nd (i_list (dv 3)) (blkOk_by (N := ["text", "rest", "is_plus", "pieces", "is_open", "sign", "piece", "figures", "is_own"]) (sc := d_pieces_of.scope) (by decide +kernel)) (by decide) (fun _ _ _ _ _ => g_nm (i := 6) nd rfl (by first | exact .inl rfl | exact .inr rfl)) (fun _ _ _ _ _ => ts_nil) (fun _ _ _ _ _ => d_cmp (op_neD (u64 h65)) a_ne (d_ix (dv 6) (d_int) (fun _ _ => rfl)) (d_str) (nomark _))) (da_nil))))) (da_nil)) (aCons_len aNil_len)))
      (q_one (q_ret [3] (d_tup (da_cons (dv 2) (da_cons (d_lc (own := [("figures", 7), ("is_own", 8)]) rfl nd (i_list (dv 3)) (blkOk_by (N := ["text", "rest", "is_plus", "pieces", "is_open", "sign", "piece", "figures", "is_own"]) (sc := d_pieces_of.scope) (by decide +kernel)) (by decide) (fun _ _ _ _ _ => g_tp rfl (gs_cons (g_nm (i := 7) nd rfl (by first | exact .inl rfl | exact .inr rfl)) (gs_cons (g_nm (i := 8) nd rfl (by first | exact .inl rfl | exact .inr rfl)) (gs_nil)))) (fun _ _ _ _ _ => ts_one (t_cmp (op_neD (u64 h65)) a_ne (dv 7) (d_str) (nomark _))) (fun _ _ _ _ _ => d_tup (da_cons (dv 7) (da_cons (dv 8) (da_nil))))) (da_nil)))))))))))))
theorem sc_figures_of : FnScope ["pieces", "figures", "is_own"] ["pieces"] (d_figures_of).scope := ⟨rfl, rfl, rfl, by decide +kernel, rfl, by decide +kernel, by decide +kernel⟩
theorem ok_figures_of (KX : K.In h) (GG : h.Ns mainGlobals mg) (c : He.SaysD fa fn K) (C : ClsX K csN) (tg : gtB K = true) (lt : LTs T mg base K tq) : Fn P w K mg base T "figures_of" 1 1 den_figures_of := by
  obtain ⟨fd, F⟩ := c.def_ 13 (d := d_figures_of) rfl
  have nd := sc_figures_of.nd
  exact fn_of (ps := ["pieces"]) F (He.glo_ok KX GG (c.fact 40 (f := .glo "figures_of") rfl)) (F.bindsN fun _ _ _ _ _ _ us hl => match us, hl with | [_], _ => rfl) (fn_run (N := ["pieces", "figures", "is_own"]) F sc_figures_of (by decide) fun cdv A outer s H E hr h65 hx hp tk =>
    q_one (q_ret [] (d_join (d_str) (d_lc (own := [("figures", 1), ("is_own", 2)]) rfl nd (i_list (dv 0)) (blkOk_by (N := ["pieces", "figures", "is_own"]) (sc := d_figures_of.scope) (by decide +kernel)) (by decide) (fun _ _ _ _ _ => g_tp rfl (gs_cons (g_nm (i := 1) nd rfl (by first | exact .inl rfl | exact .inr rfl)) (gs_cons (g_nm (i := 2) nd rfl (by first | exact .inl rfl | exact .inr rfl)) (gs_nil)))) (fun _ _ _ _ _ => ts_nil) (fun _ _ _ _ _ => dv 1)))))
theorem sc_without_ahead : FnScope ["pieces", "skip", "trunk", "place", "at", "figures", "is_own"] ["pieces", "skip", "trunk"] (d_without_ahead).scope := ⟨rfl, rfl, rfl, by decide +kernel, rfl, by decide +kernel, by decide +kernel⟩
theorem ok_without_ahead (KX : K.In h) (GG : h.Ns mainGlobals mg) (c : He.SaysD fa fn K) (C : ClsX K csN) (tg : gtB K = true) (lt : LTs T mg base K tq) : Fn P w K mg base T "without_ahead" 2 3 den_without_ahead := by
  obtain ⟨fd, F⟩ := c.def_ 14 (d := d_without_ahead) rfl
  have nd := sc_without_ahead.nd
  exact fn_of (ps := ["pieces", "skip", "trunk"]) F (He.glo_ok KX GG (c.fact 41 (f := .glo "without_ahead") rfl)) (F.bindsN fun _ _ _ _ _ _ us hl => match us, hl with | [_, _, _], _ => rfl) (fn_run (N := ["pieces", "skip", "trunk", "place", "at", "figures", "is_own"]) F sc_without_ahead (by decide) fun cdv A outer s H E hr h65 hx hp tk =>
    q_cons (q_asg [] (i := 3) nd rfl (by first | exact .inl rfl | exact .inr rfl) (d_int))
      (q_cons (q_for [] hp rfl (i_enum rfl (f_enumerate KX GG c) (da_cons (dv 0) (da_nil))) (g_tp rfl (gs_cons (g_nm (i := 4) nd rfl (by first | exact .inl rfl | exact .inr rfl)) (gs_cons (g_tp rfl (gs_cons (g_nm (i := 5) nd rfl (by first | exact .inl rfl | exact .inr rfl)) (gs_cons (g_nm (i := 6) nd rfl (by first | exact .inl rfl | exact .inr rfl)) (gs_nil)))) (gs_nil)))) (q_cons (q_if [] (PW.pt (t_and (t_cmp (op_eqD (u64 h65)) a_eq (dv 3) (dv 1) (nomark _)) (t_and (t_val (dv 6)) (t_and1 (t_cmp (op_eqD (u64 h65)) a_eq (dv 5) (dv 2) (nomark _)))))) (q_one (q_ret [] (d_call (ok_figures_of KX GG c C tg lt) (hr.mono (by decide)) rfl hx (da_cons (d_sl (dv 0) (o_some (d_op op_addAll a_add (dv 4) (d_int))) (o_none)) (da_nil)) (aCons_len aNil_len)))) (q_nil))
      (q_one (q_asg [] (i := 3) nd rfl (by first | exact .inl rfl | exact .inr rfl) (d_op op_addAll a_add (dv 3) (d_callB call_len a_len rfl (f_len KX GG c) bo_len (da_cons (dv 5) (da_nil))))))))
      (q_one (q_ret [] (d_sl (d_call (ok_figures_of KX GG c C tg lt) (hr.mono (by decide)) rfl hx (da_cons (dv 0) (da_nil)) (aCons_len aNil_len)) (o_some (dv 1)) (o_none))))))
theorem sc_far_ones : FnScope ["book", "pieces", "skip", "found", "whole", "land", "digits"] ["book", "pieces", "skip"] (d_far_ones).scope := ⟨rfl, rfl, rfl, by decide +kernel, rfl, by decide +kernel, by decide +kernel⟩
theorem ok_far_ones (KX : K.In h) (GG : h.Ns mainGlobals mg) (c : He.SaysD fa fn K) (C : ClsX K csN) (tg : gtB K = true) (lt : LTs T mg base K tq) : Fn P w K mg base T "far_ones" 3 3 den_far_ones := by
  obtain ⟨fd, F⟩ := c.def_ 15 (d := d_far_ones) rfl
  have nd := sc_far_ones.nd
  exact fn_of (ps := ["book", "pieces", "skip"]) F (He.glo_ok KX GG (c.fact 42 (f := .glo "far_ones") rfl)) (F.bindsN fun _ _ _ _ _ _ us hl => match us, hl with | [_, _, _], _ => rfl) (fn_run (N := ["book", "pieces", "skip", "found", "whole", "land", "digits"]) F sc_far_ones (by decide) fun cdv A outer s H E hr h65 hx hp tk =>
    q_cons (q_own [] (i := 3) nd rfl (by first | exact .inl rfl | exact .inr rfl) (f_lst (da_nil)))
      (q_cons (q_asg [] (i := 4) nd rfl (by first | exact .inl rfl | exact .inr rfl) (d_sl (d_call (ok_figures_of KX GG c C tg lt) (hr.mono (by decide)) rfl hx (da_cons (dv 1) (da_nil)) (aCons_len aNil_len)) (o_some (dv 2)) (o_none)))
      (q_cons (q_for [] hp rfl (i_tup (dv 0)) (g_nm (i := 5) nd rfl (by first | exact .inl rfl | exact .inr rfl)) (q_one (q_if [] (t_val (d_starts (dv 4) (d_ix (dv 5) (d_int) (fun _ _ => rfl)))) (q_cons (q_asg [] (i := 6) nd rfl (by first | exact .inl rfl | exact .inr rfl) (d_call (ok_without_ahead KX GG c C tg lt) (hr.mono (by decide)) rfl hx (da_cons (dv 1) (da_cons (d_op op_addAll a_add (dv 2) (d_callB call_len a_len rfl (f_len KX GG c) bo_len (da_cons (d_ix (dv 5) (d_int) (fun _ _ => rfl)) (da_nil)))) (da_cons (d_ix (dv 5) (d_int) (fun _ _ => rfl)) (da_nil)))) (aCons_len (aCons_len (aCons_len aNil_len)))))
      (q_cons (q_app [] (pv 3) (d_tup (da_cons (d_ix (dv 5) (d_int) (fun _ _ => rfl)) (da_cons (dv 6) (da_nil)))))
      (q_one (q_app [] (pv 3) (d_tup (da_cons (d_ix (dv 5) (d_int) (fun _ _ => rfl)) (da_cons (d_sl (dv 4) (o_some (d_callB call_len a_len rfl (f_len KX GG c) bo_len (da_cons (d_ix (dv 5) (d_int) (fun _ _ => rfl)) (da_nil)))) (o_none)) (da_nil)))))))) (q_nil))))
      (q_one (q_ret [3] (dv 3))))))
theorem sc_meant : FnScope ["book", "text", "home", "is_plus", "pieces", "land", "whole", "found"] ["book", "text", "home"] (d_meant).scope := ⟨rfl, rfl, rfl, by decide +kernel, rfl, by decide +kernel, by decide +kernel⟩
theorem ok_meant (KX : K.In h) (GG : h.Ns mainGlobals mg) (c : He.SaysD fa fn K) (C : ClsX K csN) (tg : gtB K = true) (lt : LTs T mg base K tq) : Fn P w K mg base T "meant" 4 3 den_meant := by
  obtain ⟨fd, F⟩ := c.def_ 16 (d := d_meant) rfl
  have nd := sc_meant.nd
  exact fn_of (ps := ["book", "text", "home"]) F (He.glo_ok KX GG (c.fact 43 (f := .glo "meant") rfl)) (F.bindsN fun _ _ _ _ _ _ us hl => match us, hl with | [_, _, _], _ => rfl) (fn_run (N := ["book", "text", "home", "is_plus", "pieces", "land", "whole", "found"]) F sc_meant (by decide) fun cdv A outer s H E hr h65 hx hp tk =>
    q_cons (q_asgT [] (d_call (ok_pieces_of KX GG c C tg lt) (hr.mono (by decide)) rfl hx (da_cons (dv 1) (da_nil)) (aCons_len aNil_len)) (g_tp rfl (gs_cons (g_nm (i := 3) nd rfl (by first | exact .inl rfl | exact .inr rfl)) (gs_cons (g_nm (i := 4) nd rfl (by first | exact .inl rfl | exact .inr rfl)) (gs_nil)))))
      (q_cons (q_if [] (t_val (dv 3)) (q_one (q_ret [] (d_call (ok_far_ones KX GG c C tg lt) (hr.mono (by decide)) rfl hx (da_cons (dv 0) (da_cons (dv 4) (da_cons (d_int) (da_nil)))) (aCons_len (aCons_len (aCons_len aNil_len)))))) (q_nil))
      (q_cons (q_par [] (i := 5) (j := 6) rfl nd rfl rfl (by decide) rfl rfl (d_call (ok_land_of KX GG c C tg lt) (hr.mono (by decide)) rfl hx (da_cons (dv 0) (da_cons (dv 2) (da_nil))) (aCons_len (aCons_len aNil_len))) (d_call (ok_figures_of KX GG c C tg lt) (hr.mono (by decide)) rfl hx (da_cons (dv 4) (da_nil)) (aCons_len aNil_len)))
      (q_cons (q_own [] (i := 7) nd rfl (by first | exact .inl rfl | exact .inr rfl) (f_lst (da_cons (d_tup (da_cons (dv 2) (da_cons (dv 6) (da_nil)))) (da_nil))))
      (q_cons (q_if [] (PW.pt (t_and (t_cmp (op_neD (u64 h65)) a_ne (d_ix (dv 5) (d_int) (fun _ _ => rfl)) (d_str) (nomark _)) (t_and1 (t_val (d_starts (dv 6) (d_ix (dv 5) (d_int) (fun _ _ => rfl))))))) (q_one (q_app [] (pv 7) (d_tup (da_cons (dv 2) (da_cons (d_sl (dv 6) (o_some (d_callB call_len a_len rfl (f_len KX GG c) bo_len (da_cons (d_ix (dv 5) (d_int) (fun _ _ => rfl)) (da_nil)))) (o_none)) (da_nil)))))) (q_nil))
      (q_cons (q_if [] (t_val (d_starts (dv 6) (d_ix (dv 5) (d_int) (fun _ _ => rfl)))) (q_one (q_ext [] (pv 7) (d_call (ok_far_ones KX GG c C tg lt) (hr.mono (by decide)) rfl hx (da_cons (dv 0) (da_cons (dv 4) (da_cons (d_callB call_len a_len rfl (f_len KX GG c) bo_len (da_cons (d_ix (dv 5) (d_int) (fun _ _ => rfl)) (da_nil))) (da_nil)))) (aCons_len (aCons_len (aCons_len aNil_len)))))) (q_nil))
      (q_one (q_ret [7] (dv 7)))))))))
theorem sc_readings_of : FnScope ["book", "text", "home", "one"] ["book", "text", "home"] (d_readings_of).scope := ⟨rfl, rfl, rfl, by decide +kernel, rfl, by decide +kernel, by decide +kernel⟩
theorem ok_readings_of (KX : K.In h) (GG : h.Ns mainGlobals mg) (c : He.SaysD fa fn K) (C : ClsX K csN) (tg : gtB K = true) (lt : LTs T mg base K tq) : Fn P w K mg base T "readings_of" 5 3 den_readings_of := by
  obtain ⟨fd, F⟩ := c.def_ 17 (d := d_readings_of) rfl
  have nd := sc_readings_of.nd
  exact fn_of (ps := ["book", "text", "home"]) F (He.glo_ok KX GG (c.fact 44 (f := .glo "readings_of") rfl)) (F.bindsN fun _ _ _ _ _ _ us hl => match us, hl with | [_, _, _], _ => rfl) (fn_run (N := ["book", "text", "home", "one"]) F sc_readings_of (by decide) fun cdv A outer s H E hr h65 hx hp tk =>
    q_one (q_ret [] (d_lc (own := [("one", 3)]) rfl nd (i_list (d_sortSet rfl (f_sorted KX GG c) rfl (f_set KX GG c) rfl h65 (da_cons (d_call (ok_meant KX GG c C tg lt) (hr.mono (by decide)) rfl hx (da_cons (dv 0) (da_cons (dv 1) (da_cons (dv 2) (da_nil)))) (aCons_len (aCons_len (aCons_len aNil_len)))) (da_nil)))) (blkOk_by (N := ["book", "text", "home", "one"]) (sc := d_readings_of.scope) (by decide +kernel)) (by decide) (fun _ _ _ _ _ => g_nm (i := 3) nd rfl (by first | exact .inl rfl | exact .inr rfl)) (fun _ _ _ _ _ => ts_one (t_val (d_call (ok_has_number KX GG c C tg lt) (hr.mono (by decide)) rfl passN (da_cons (dv 0) (da_cons (dv 3) (da_nil))) (aCons_len (aCons_len aNil_len))))) (fun _ _ _ _ _ => dv 3))))
theorem sc_readings : FnScope ["book", "text", "home"] ["book", "text", "home"] (d_readings).scope := ⟨rfl, rfl, rfl, by decide +kernel, rfl, by decide +kernel, by decide +kernel⟩
theorem ok_readings (KX : K.In h) (GG : h.Ns mainGlobals mg) (c : He.SaysD fa fn K) (C : ClsX K csN) (tg : gtB K = true) (lt : LTs T mg base K tq) : Fn P w K mg base T "readings" 7 3 den_readings := by
  obtain ⟨fd, F⟩ := c.def_ 18 (d := d_readings) rfl
  have nd := sc_readings.nd
  exact fn_of (ps := ["book", "text", "home"]) F (He.glo_ok KX GG (c.fact 45 (f := .glo "readings") rfl)) (F.bindsN fun _ _ _ _ _ _ us hl => match us, hl with | [_, _, _], _ => rfl) (fn_run (N := ["book", "text", "home"]) F sc_readings (by decide) fun cdv A outer s H E hr h65 hx hp tk =>
    q_cons (q_drop [] (d_call (ok_need_land KX GG c C tg lt) (hr.mono (by decide)) rfl hx (da_cons (dv 0) (da_cons (dv 2) (da_nil))) (aCons_len (aCons_len aNil_len))))
      (q_one (q_ret [] (d_call (ok_readings_of KX GG c C tg lt) (hr.mono (by decide)) rfl hx (da_cons (dv 0) (da_cons (dv 1) (da_cons (dv 2) (da_nil)))) (aCons_len (aCons_len (aCons_len aNil_len)))))))
theorem sc_read : FnScope ["book", "text", "home", "found"] ["book", "text", "home"] (d_read).scope := ⟨rfl, rfl, rfl, by decide +kernel, rfl, by decide +kernel, by decide +kernel⟩
theorem ok_read (KX : K.In h) (GG : h.Ns mainGlobals mg) (c : He.SaysD fa fn K) (C : ClsX K csN) (tg : gtB K = true) (lt : LTs T mg base K tq) : Fn P w K mg base T "read" 8 3 den_read := by
  obtain ⟨fd, F⟩ := c.def_ 19 (d := d_read) rfl
  have nd := sc_read.nd
  exact fn_of (ps := ["book", "text", "home"]) F (He.glo_ok KX GG (c.fact 46 (f := .glo "read") rfl)) (F.bindsN fun _ _ _ _ _ _ us hl => match us, hl with | [_, _, _], _ => rfl) (fn_run (N := ["book", "text", "home", "found"]) F sc_read (by decide) fun cdv A outer s H E hr h65 hx hp tk =>
    q_cons (q_asg [] (i := 3) nd rfl (by first | exact .inl rfl | exact .inr rfl) (d_call (ok_readings KX GG c C tg lt) (hr.mono (by decide)) rfl hx (da_cons (dv 0) (da_cons (dv 1) (da_cons (dv 2) (da_nil)))) (aCons_len (aCons_len (aCons_len aNil_len)))))
      (q_cons (q_if [] (t_cmp (op_eqD (u64 h65)) a_eq (dv 3) (d_lst (da_nil)) (nomark _)) (q_one (q_never)) (q_nil))
      (q_cons (q_if [] (t_cmp op_gtAll a_gt (d_callB call_len a_len rfl (f_len KX GG c) bo_len (da_cons (dv 3) (da_nil))) (d_int) (nomark _)) (q_one (q_never)) (q_nil))
      (q_one (q_ret [] (d_ix (dv 3) (d_int) (fun _ _ => rfl)))))))
theorem sc_need_number : FnScope ["book", "number"] ["book", "number"] (d_need_number).scope := ⟨rfl, rfl, rfl, by decide +kernel, rfl, by decide +kernel, by decide +kernel⟩
theorem ok_need_number (KX : K.In h) (GG : h.Ns mainGlobals mg) (c : He.SaysD fa fn K) (C : ClsX K csN) (tg : gtB K = true) (lt : LTs T mg base K tq) : Fn P w K mg base T "need_number" 6 2 den_need_number := by
  obtain ⟨fd, F⟩ := c.def_ 20 (d := d_need_number) rfl
  have nd := sc_need_number.nd
  exact fn_of (ps := ["book", "number"]) F (He.glo_ok KX GG (c.fact 47 (f := .glo "need_number") rfl)) (F.bindsN fun _ _ _ _ _ _ us hl => match us, hl with | [_, _], _ => rfl) (fn_run (N := ["book", "number"]) F sc_need_number (by decide) fun cdv A outer s H E hr h65 hx hp tk =>
    q_cons (q_drop [] (d_call (ok_need_book KX GG c C tg lt) (hr.mono (by decide)) rfl hx (da_cons (dv 0) (da_nil)) (aCons_len aNil_len)))
      (q_one (q_if [] (t_not (t_val (d_call (ok_has_number KX GG c C tg lt) (hr.mono (by decide)) rfl hx (da_cons (dv 0) (da_cons (dv 1) (da_nil))) (aCons_len (aCons_len aNil_len))))) (q_one (q_never)) (q_nil))))
theorem sc_dialled_of : FnScope ["book", "number", "home", "land"] ["book", "number", "home"] (d_dialled_of).scope := ⟨rfl, rfl, rfl, by decide +kernel, rfl, by decide +kernel, by decide +kernel⟩
theorem ok_dialled_of (KX : K.In h) (GG : h.Ns mainGlobals mg) (c : He.SaysD fa fn K) (C : ClsX K csN) (tg : gtB K = true) (lt : LTs T mg base K tq) : Fn P w K mg base T "dialled_of" 2 3 den_dialled_of := by
  obtain ⟨fd, F⟩ := c.def_ 21 (d := d_dialled_of) rfl
  have nd := sc_dialled_of.nd
  exact fn_of (ps := ["book", "number", "home"]) F (He.glo_ok KX GG (c.fact 48 (f := .glo "dialled_of") rfl)) (F.bindsN fun _ _ _ _ _ _ us hl => match us, hl with | [_, _, _], _ => rfl) (fn_run (N := ["book", "number", "home", "land"]) F sc_dialled_of (by decide) fun cdv A outer s H E hr h65 hx hp tk =>
    q_cons (q_asg [] (i := 3) nd rfl (by first | exact .inl rfl | exact .inr rfl) (d_call (ok_land_of KX GG c C tg lt) (hr.mono (by decide)) rfl hx (da_cons (dv 0) (da_cons (dv 2) (da_nil))) (aCons_len (aCons_len aNil_len))))
      (q_one (q_ret [] (d_if (t_cmp (op_eqD (u64 h65)) a_eq (d_ix (dv 1) (d_int) (fun _ _ => rfl)) (dv 2) (nomark _)) (d_op op_addAll a_add (d_ix (dv 3) (d_int) (fun _ _ => rfl)) (d_ix (dv 1) (d_int) (fun _ _ => rfl))) (d_op op_addAll a_add (d_op op_addAll a_add (d_ix (dv 3) (d_int) (fun _ _ => rfl)) (d_ix (dv 1) (d_int) (fun _ _ => rfl))) (d_ix (dv 1) (d_int) (fun _ _ => rfl)))))))
theorem sc_dialled : FnScope ["book", "number", "home"] ["book", "number", "home"] (d_dialled).scope := ⟨rfl, rfl, rfl, by decide +kernel, rfl, by decide +kernel, by decide +kernel⟩
theorem ok_dialled (KX : K.In h) (GG : h.Ns mainGlobals mg) (c : He.SaysD fa fn K) (C : ClsX K csN) (tg : gtB K = true) (lt : LTs T mg base K tq) : Fn P w K mg base T "dialled" 7 3 den_dialled := by
  obtain ⟨fd, F⟩ := c.def_ 22 (d := d_dialled) rfl
  have nd := sc_dialled.nd
  exact fn_of (ps := ["book", "number", "home"]) F (He.glo_ok KX GG (c.fact 49 (f := .glo "dialled") rfl)) (F.bindsN fun _ _ _ _ _ _ us hl => match us, hl with | [_, _, _], _ => rfl) (fn_run (N := ["book", "number", "home"]) F sc_dialled (by decide) fun cdv A outer s H E hr h65 hx hp tk =>
    q_cons (q_drop [] (d_call (ok_need_number KX GG c C tg lt) (hr.mono (by decide)) rfl hx (da_cons (dv 0) (da_cons (dv 1) (da_nil))) (aCons_len (aCons_len aNil_len))))
      (q_cons (q_drop [] (d_call (ok_need_land KX GG c C tg lt) (hr.mono (by decide)) rfl hx (da_cons (dv 0) (da_cons (dv 2) (da_nil))) (aCons_len (aCons_len aNil_len))))
      (q_one (q_ret [] (d_call (ok_dialled_of KX GG c C tg lt) (hr.mono (by decide)) rfl hx (da_cons (dv 0) (da_cons (dv 1) (da_cons (dv 2) (da_nil)))) (aCons_len (aCons_len (aCons_len aNil_len))))))))
theorem sc_groups_of : FnScope ["land", "digits", "found", "at", "size"] ["land", "digits"] (d_groups_of).scope := ⟨rfl, rfl, rfl, by decide +kernel, rfl, by decide +kernel, by decide +kernel⟩
theorem ok_groups_of (KX : K.In h) (GG : h.Ns mainGlobals mg) (c : He.SaysD fa fn K) (C : ClsX K csN) (tg : gtB K = true) (lt : LTs T mg base K tq) : Fn P w K mg base T "groups_of" 2 2 den_groups_of := by
  obtain ⟨fd, F⟩ := c.def_ 23 (d := d_groups_of) rfl
  have nd := sc_groups_of.nd
  exact fn_of (ps := ["land", "digits"]) F (He.glo_ok KX GG (c.fact 50 (f := .glo "groups_of") rfl)) (F.bindsN fun _ _ _ _ _ _ us hl => match us, hl with | [_, _], _ => rfl) (fn_run (N := ["land", "digits", "found", "at", "size"]) F sc_groups_of (by decide) fun cdv A outer s H E hr h65 hx hp tk =>
    q_cons (q_parO [] (i := 2) (j := 3) rfl nd rfl rfl (by decide) rfl rfl (f_lst (da_nil)) (d_int))
      (q_cons (q_for [] hp rfl (i_tup (d_ix (d_call (ok_row_of KX GG c C tg lt) (hr.mono (by decide)) rfl hx (da_cons (dv 0) (da_cons (dv 1) (da_nil))) (aCons_len (aCons_len aNil_len))) (d_int) (fun _ _ => rfl))) (g_nm (i := 4) nd rfl (by first | exact .inl rfl | exact .inr rfl)) (q_cons (q_app [] (pv 2) (d_sl (dv 1) (o_some (dv 3)) (o_some (d_op op_addAll a_add (dv 3) (dv 4)))))
      (q_one (q_asg [] (i := 3) nd rfl (by first | exact .inl rfl | exact .inr rfl) (d_op op_addAll a_add (dv 3) (dv 4))))))
      (q_one (q_ret [2] (dv 2)))))
theorem sc_written : FnScope ["book", "number", "way", "home", "some", "land"] ["book", "number", "way", "home"] (d_written).scope := ⟨rfl, rfl, rfl, by decide +kernel, rfl, by decide +kernel, by decide +kernel⟩
theorem ok_written (KX : K.In h) (GG : h.Ns mainGlobals mg) (c : He.SaysD fa fn K) (C : ClsX K csN) (tg : gtB K = true) (lt : LTs T mg base K tq) : Fn P w K mg base T "written" 7 4 den_written := by
  obtain ⟨fd, F⟩ := c.def_ 24 (d := d_written) rfl
  have nd := sc_written.nd
  exact fn_of (ps := ["book", "number", "way", "home"]) F (He.glo_ok KX GG (c.fact 51 (f := .glo "written") rfl)) (F.bindsN fun _ _ _ _ _ _ us hl => match us, hl with | [_, _, _, _], _ => rfl) (fn_run (N := ["book", "number", "way", "home", "some", "land"]) F sc_written (by decide) fun cdv A outer s H E hr h65 hx hp tk =>
    q_cons (q_drop [] (d_call (ok_need_number KX GG c C tg lt) (hr.mono (by decide)) rfl hx (da_cons (dv 0) (da_cons (dv 1) (da_nil))) (aCons_len (aCons_len aNil_len))))
      (q_cons (q_if [] (PW.pt (t_or (t_not (t_val (d_isi rfl (f_isinstance KX GG c) (dv 2) (pe_tyn rfl (f_str KX GG c) bo_str)))) (t_or1 (t_notInG (g_WAYS KX GG c tg) (dv 2))))) (q_one (q_never)) (q_nil))
      (q_cons (q_drop [] (d_call (ok_need_land KX GG c C tg lt) (hr.mono (by decide)) rfl hx (da_cons (dv 0) (da_cons (dv 3) (da_nil))) (aCons_len (aCons_len aNil_len))))
      (q_cons (q_asg [] (i := 4) nd rfl (by first | exact .inl rfl | exact .inr rfl) (d_call (ok_groups_of KX GG c C tg lt) (hr.mono (by decide)) rfl hx (da_cons (d_call (ok_land_of KX GG c C tg lt) (hr.mono (by decide)) rfl hx (da_cons (dv 0) (da_cons (d_ix (dv 1) (d_int) (fun _ _ => rfl)) (da_nil))) (aCons_len (aCons_len aNil_len))) (da_cons (d_ix (dv 1) (d_int) (fun _ _ => rfl)) (da_nil))) (aCons_len (aCons_len aNil_len))))
      (q_cons (q_if [] (t_cmp (op_eqD (u64 h65)) a_eq (dv 2) (d_str) (nomark _)) (q_one (q_ret [] (d_op op_addAll a_add (d_op op_addAll a_add (d_str) (d_ix (dv 1) (d_int) (fun _ _ => rfl))) (d_ix (dv 1) (d_int) (fun _ _ => rfl))))) (q_nil))
      (q_cons (q_if [] (t_cmp (op_eqD (u64 h65)) a_eq (dv 2) (d_str) (nomark _)) (q_one (q_ret [] (d_op op_addAll a_add (d_str) (d_join (d_str) (d_op op_addAll a_add (d_lst (da_cons (d_ix (dv 1) (d_int) (fun _ _ => rfl)) (da_nil))) (dv 4)))))) (q_nil))
      (q_cons (q_if [] (t_cmp (op_eqD (u64 h65)) a_eq (dv 2) (d_str) (nomark _)) (q_one (q_ret [] (d_join (d_str) (dv 4)))) (q_nil))
      (q_cons (q_asg [] (i := 5) nd rfl (by first | exact .inl rfl | exact .inr rfl) (d_call (ok_land_of KX GG c C tg lt) (hr.mono (by decide)) rfl hx (da_cons (dv 0) (da_cons (dv 3) (da_nil))) (aCons_len (aCons_len aNil_len))))
      (q_cons (q_if [] (t_cmp (op_eqD (u64 h65)) a_eq (d_ix (dv 1) (d_int) (fun _ _ => rfl)) (dv 3) (nomark _)) (q_one (q_ret [] (d_op op_addAll a_add (d_ix (dv 5) (d_int) (fun _ _ => rfl)) (d_join (d_str) (dv 4))))) (q_nil))
      (q_one (q_ret [] (d_join (d_str) (d_op op_addAll a_add (d_lst (da_cons (d_op op_addAll a_add (d_ix (dv 5) (d_int) (fun _ _ => rfl)) (d_ix (dv 1) (d_int) (fun _ _ => rfl))) (da_nil))) (dv 4))))))))))))))
theorem sc_ways_for : FnScope ["book", "number", "home", "way"] ["book", "number", "home"] (d_ways_for).scope := ⟨rfl, rfl, rfl, by decide +kernel, rfl, by decide +kernel, by decide +kernel⟩
theorem ok_ways_for (KX : K.In h) (GG : h.Ns mainGlobals mg) (c : He.SaysD fa fn K) (C : ClsX K csN) (tg : gtB K = true) (lt : LTs T mg base K tq) : Fn P w K mg base T "ways_for" 8 3 den_ways_for := by
  obtain ⟨fd, F⟩ := c.def_ 25 (d := d_ways_for) rfl
  have nd := sc_ways_for.nd
  exact fn_of (ps := ["book", "number", "home"]) F (He.glo_ok KX GG (c.fact 52 (f := .glo "ways_for") rfl)) (F.bindsN fun _ _ _ _ _ _ us hl => match us, hl with | [_, _, _], _ => rfl) (fn_run (N := ["book", "number", "home", "way"]) F sc_ways_for (by decide) fun cdv A outer s H E hr h65 hx hp tk =>
    q_cons (q_drop [] (d_call (ok_need_number KX GG c C tg lt) (hr.mono (by decide)) rfl hx (da_cons (dv 0) (da_cons (dv 1) (da_nil))) (aCons_len (aCons_len aNil_len))))
      (q_cons (q_drop [] (d_call (ok_need_land KX GG c C tg lt) (hr.mono (by decide)) rfl hx (da_cons (dv 0) (da_cons (dv 2) (da_nil))) (aCons_len (aCons_len aNil_len))))
      (q_one (q_ret [] (d_lc (own := [("way", 3)]) rfl nd (i_gtup (g_WAYS KX GG c tg)) (blkOk_by (N := ["book", "number", "home", "way"]) (sc := d_ways_for.scope) (by decide +kernel)) (by decide) (fun _ _ _ _ _ => g_nm (i := 3) nd rfl (by first | exact .inl rfl | exact .inr rfl)) (fun _ _ _ _ _ => ts_one (t_cmp (op_eqD (u64 h65)) a_eq (d_call (ok_readings_of KX GG c C tg lt) (hr.mono (by decide)) rfl passN (da_cons (dv 0) (da_cons (d_call (ok_written KX GG c C tg lt) (hr.mono (by decide)) rfl passN (da_cons (dv 0) (da_cons (dv 1) (da_cons (dv 3) (da_cons (dv 2) (da_nil))))) (aCons_len (aCons_len (aCons_len (aCons_len aNil_len))))) (da_cons (dv 2) (da_nil)))) (aCons_len (aCons_len (aCons_len aNil_len)))) (d_lst (da_cons (dv 1) (da_nil))) (nomark _))) (fun _ _ _ _ _ => dv 3))))))
theorem sc_shortest : FnScope ["book", "number", "home", "texts", "way"] ["book", "number", "home"] (d_shortest).scope := ⟨rfl, rfl, rfl, by decide +kernel, rfl, by decide +kernel, by decide +kernel⟩
theorem ok_shortest (KX : K.In h) (GG : h.Ns mainGlobals mg) (c : He.SaysD fa fn K) (C : ClsX K csN) (tg : gtB K = true) (lt : LTs T mg base K tq) : Fn P w K mg base T "shortest" 9 3 den_shortest := by
  obtain ⟨fd, F⟩ := c.def_ 26 (d := d_shortest) rfl
  have nd := sc_shortest.nd
  exact fn_of (ps := ["book", "number", "home"]) F (He.glo_ok KX GG (c.fact 53 (f := .glo "shortest") rfl)) (F.bindsN fun _ _ _ _ _ _ us hl => match us, hl with | [_, _, _], _ => rfl) (fn_runL (N := ["book", "number", "home", "texts", "way"]) F sc_shortest (by decide) fun A outer s H E hr h65 hx hp tk =>
    q_cons (q_asgLc [] (i := 3) rfl rfl (sw_true rfl rfl rfl (by decide +kernel)) (own := [("way", 4)]) rfl nd (i_list (d_call (ok_ways_for KX GG c C tg lt) (hr.mono (by decide)) rfl hx (da_cons (dv 0) (da_cons (dv 1) (da_cons (dv 2) (da_nil)))) (aCons_len (aCons_len (aCons_len aNil_len))))) (blkOk_by (N := ["book", "number", "home", "texts", "way"]) (sc := d_shortest.scope) (by decide +kernel)) (by decide) (fun _ _ _ _ _ => g_nm (i := 4) nd rfl (by first | exact .inl rfl | exact .inr rfl)) (fun _ _ _ _ _ => ts_nil) (fun _ _ _ _ _ => d_call (ok_written KX GG c C tg lt) (hr.mono (by decide)) rfl passN (da_cons (dv 0) (da_cons (dv 1) (da_cons (dv 4) (da_cons (dv 2) (da_nil))))) (aCons_len (aCons_len (aCons_len (aCons_len aNil_len))))))
      (q_one (q_ret [] (d_minK (k := 0) rfl (f_min KX GG c) (da_cons (dv 3) (da_nil)) (lt.at 0 (p := q_shortest) rfl) ⟨rfl, rfl, rfl, by decide +kernel, rfl, by decide +kernel, by decide +kernel⟩ rfl (fun _ _ _ _ => rfl) (hr.mono (by decide)) (fun _ _ _ _ _ _ hr => have nd : (["text"] : List Str).Nodup := (by decide +kernel); d_callB call_len a_len rfl (f_len KX GG c) bo_len (da_cons (dv 0) (da_nil)))))))
theorem sc_linked : FnScope ["book", "number"] ["book", "number"] (d_linked).scope := ⟨rfl, rfl, rfl, by decide +kernel, rfl, by decide +kernel, by decide +kernel⟩
theorem ok_linked (KX : K.In h) (GG : h.Ns mainGlobals mg) (c : He.SaysD fa fn K) (C : ClsX K csN) (tg : gtB K = true) (lt : LTs T mg base K tq) : Fn P w K mg base T "linked" 7 2 den_linked := by
  obtain ⟨fd, F⟩ := c.def_ 27 (d := d_linked) rfl
  have nd := sc_linked.nd
  exact fn_of (ps := ["book", "number"]) F (He.glo_ok KX GG (c.fact 54 (f := .glo "linked") rfl)) (F.bindsN fun _ _ _ _ _ _ us hl => match us, hl with | [_, _], _ => rfl) (fn_run (N := ["book", "number"]) F sc_linked (by decide) fun cdv A outer s H E hr h65 hx hp tk =>
    q_cons (q_drop [] (d_call (ok_need_number KX GG c C tg lt) (hr.mono (by decide)) rfl hx (da_cons (dv 0) (da_cons (dv 1) (da_nil))) (aCons_len (aCons_len aNil_len))))
      (q_one (q_ret [] (d_op op_addAll a_add (d_str) (d_join (d_str) (d_op op_addAll a_add (d_lst (da_cons (d_ix (dv 1) (d_int) (fun _ _ => rfl)) (da_nil))) (d_call (ok_groups_of KX GG c C tg lt) (hr.mono (by decide)) rfl hx (da_cons (d_call (ok_land_of KX GG c C tg lt) (hr.mono (by decide)) rfl hx (da_cons (dv 0) (da_cons (d_ix (dv 1) (d_int) (fun _ _ => rfl)) (da_nil))) (aCons_len (aCons_len aNil_len))) (da_cons (d_ix (dv 1) (d_int) (fun _ _ => rfl)) (da_nil))) (aCons_len (aCons_len aNil_len)))))))))
theorem sc__law_cell : FnScope ["_law_script", "_law_k"] ["_law_script", "_law_k"] (d__law_cell).scope := ⟨rfl, rfl, rfl, by decide +kernel, rfl, by decide +kernel, by decide +kernel⟩
theorem ok__law_cell (KX : K.In h) (GG : h.Ns mainGlobals mg) (c : He.SaysD fa fn K) (C : ClsX K csN) (tg : gtB K = true) (lt : LTs T mg base K tq) : Fn P w K mg base T "_law_cell" 1 2 den__law_cell := by
  obtain ⟨fd, F⟩ := c.def_ 28 (d := d__law_cell) rfl
  have nd := sc__law_cell.nd
  exact fn_of (ps := ["_law_script", "_law_k"]) F (He.glo_ok KX GG (c.fact 55 (f := .glo "_law_cell") rfl)) (F.bindsN fun _ _ _ _ _ _ us hl => match us, hl with | [_, _], _ => rfl) (fn_run (N := ["_law_script", "_law_k"]) F sc__law_cell (by decide) fun cdv A outer s H E hr h65 hx hp tk =>
    q_cons (q_if [] (t_cmp (op_eqD (u64 h65)) a_eq (dv 0) (d_lst (da_nil)) (nomark _)) (q_one (q_ret [] (d_op op_mulAll a_mul (dv 1) (d_int)))) (q_nil))
      (q_one (q_ret [] (d_op op_addAll a_add (d_ix (dv 0) (d_op op_mod a_mod (dv 1) (d_callB call_len a_len rfl (f_len KX GG c) bo_len (da_cons (dv 0) (da_nil)))) (fun _ _ => rfl)) (d_op op_mulAll a_mul (d_op op_fdivW a_fdiv (dv 1) (d_callB call_len a_len rfl (f_len KX GG c) bo_len (da_cons (dv 0) (da_nil)))) (d_int))))))
theorem sc__law_drawn : FnScope ["_law_cell_here", "_law_k", "_law_more"] ["_law_cell_here", "_law_k"] (d__law_drawn).scope := ⟨rfl, rfl, rfl, by decide +kernel, rfl, by decide +kernel, by decide +kernel⟩
theorem ok__law_drawn (KX : K.In h) (GG : h.Ns mainGlobals mg) (c : He.SaysD fa fn K) (C : ClsX K csN) (tg : gtB K = true) (lt : LTs T mg base K tq) : Fn P w K mg base T "_law_drawn" 1 2 den__law_drawn := by
  obtain ⟨fd, F⟩ := c.def_ 29 (d := d__law_drawn) rfl
  have nd := sc__law_drawn.nd
  exact fn_of (ps := ["_law_cell_here", "_law_k"]) F (He.glo_ok KX GG (c.fact 56 (f := .glo "_law_drawn") rfl)) (F.bindsN fun _ _ _ _ _ _ us hl => match us, hl with | [_, _], _ => rfl) (fn_run (N := ["_law_cell_here", "_law_k", "_law_more"]) F sc__law_drawn (by decide) fun cdv A outer s H E hr h65 hx hp tk =>
    q_cons (q_asg [] (i := 2) nd rfl (by first | exact .inl rfl | exact .inr rfl) (d_op op_mod a_mod (d_op op_addAll a_add (d_op op_mulAll a_mul (dv 0) (d_int)) (d_op op_mulAll a_mul (d_op op_addAll a_add (dv 1) (d_int)) (d_int))) (d_int)))
      (q_cons (q_asg [] (i := 2) nd rfl (by first | exact .inl rfl | exact .inr rfl) (d_op op_mod a_mod (d_op op_mulAll a_mul (dv 2) (dv 2)) (d_int)))
      (q_cons (q_asg [] (i := 2) nd rfl (by first | exact .inl rfl | exact .inr rfl) (d_op op_mulAll a_mul (d_op op_mulAll a_mul (d_op op_addAll a_add (d_op op_mod a_mod (dv 2) (d_int)) (d_int)) (d_op op_addAll a_add (d_op op_fdivW a_fdiv (dv 2) (d_int)) (d_int))) (dv 2)))
      (q_one (q_ret [] (d_op op_mod a_mod (dv 2) (d_int)))))))
theorem sc__law_one_row : FnScope ["_law_more", "_law_begin", "_law_size", "_law_left", "_law_groups", "_law_own"] ["_law_more"] (d__law_one_row).scope := ⟨rfl, rfl, rfl, by decide +kernel, rfl, by decide +kernel, by decide +kernel⟩
theorem ok__law_one_row (KX : K.In h) (GG : h.Ns mainGlobals mg) (c : He.SaysD fa fn K) (C : ClsX K csN) (tg : gtB K = true) (lt : LTs T mg base K tq) : Fn P w K mg base T "_law_one_row" 2 1 den__law_one_row := by
  obtain ⟨fd, F⟩ := c.def_ 30 (d := d__law_one_row) rfl
  have nd := sc__law_one_row.nd
  exact fn_of (ps := ["_law_more"]) F (He.glo_ok KX GG (c.fact 57 (f := .glo "_law_one_row") rfl)) (F.bindsN fun _ _ _ _ _ _ us hl => match us, hl with | [_], _ => rfl) (fn_run (N := ["_law_more", "_law_begin", "_law_size", "_law_left", "_law_groups", "_law_own"]) F sc__law_one_row (by decide) fun cdv A outer s H E hr h65 hx hp tk =>
    q_cons (q_asg [] (i := 1) nd rfl (by first | exact .inl rfl | exact .inr rfl) (d_ix (d_lst (da_cons (d_str) (da_cons (d_str) (da_cons (d_str) (da_cons (d_str) (da_cons (d_str) (da_cons (d_str) (da_cons (d_str) (da_cons (d_str) (da_cons (d_str) (da_cons (d_str) (da_nil)))))))))))) (d_op op_mod a_mod (dv 0) (d_int)) (fun _ _ => rfl)))
      (q_cons (q_asg [] (i := 2) nd rfl (by first | exact .inl rfl | exact .inr rfl) (d_op op_addAll a_add (d_callB (call_max2 rfl) a_max2 rfl (f_max KX GG c) bo_max (da_cons (d_int) (da_cons (d_op op_addAll a_add (d_callB call_len a_len rfl (f_len KX GG c) bo_len (da_cons (dv 1) (da_nil))) (d_int)) (da_nil)))) (d_op op_mod a_mod (d_op op_fdivW a_fdiv (dv 0) (d_int)) (d_ix (d_lst (da_cons (d_int) (da_cons (d_int) (da_cons (d_int) (da_nil))))) (d_op op_mod a_mod (d_op op_fdivW a_fdiv (dv 0) (d_int)) (d_int)) (fun _ _ => rfl)))))
      (q_cons (q_parV [] (i := 3) (j := 4) rfl nd rfl rfl (by decide) rfl rfl (dv 2) (f_lst (da_nil)))
      (q_cons (q_while 1000 [] hp (t_cmp op_gtAll a_gt (dv 3) (d_int) (nomark _)) (q_cons (q_asg [] (i := 5) nd rfl (by first | exact .inl rfl | exact .inr rfl) (d_op op_addAll a_add (d_int) (d_op op_mod a_mod (d_call (ok__law_drawn KX GG c C tg lt) (hr.mono (by decide)) rfl hx (da_cons (dv 0) (da_cons (dv 3) (da_nil))) (aCons_len (aCons_len aNil_len))) (d_callB (call_min2 rfl) a_min2 rfl (f_min KX GG c) bo_min (da_cons (dv 3) (da_cons (d_int) (da_nil)))))))
      (q_cons (q_app [] (pv 4) (dv 5))
      (q_one (q_asg [] (i := 3) nd rfl (by first | exact .inl rfl | exact .inr rfl) (d_op op_sub a_sub (dv 3) (dv 5)))))))
      (q_one (q_ret [4] (d_tup (da_cons (d_ix (d_lst (da_cons (d_str) (da_cons (d_str) (da_cons (d_str) (da_nil))))) (d_op op_mod a_mod (d_op op_fdivW a_fdiv (dv 0) (d_int)) (d_int)) (fun _ _ => rfl)) (da_cons (dv 1) (da_cons (dv 2) (da_cons (d_callTy call_tuple_of a_tuple rfl (f_tuple KX GG c) bo_tuple (da_cons (dv 4) (da_nil))) (da_nil))))))))))))
theorem sc__law_land : FnScope ["_law_more", "_law_code", "_law_rows", "_law_j", "_law_row", "_law_one"] ["_law_more", "_law_code"] (d__law_land).scope := ⟨rfl, rfl, rfl, by decide +kernel, rfl, by decide +kernel, by decide +kernel⟩
theorem ok__law_land (KX : K.In h) (GG : h.Ns mainGlobals mg) (c : He.SaysD fa fn K) (C : ClsX K csN) (tg : gtB K = true) (lt : LTs T mg base K tq) : Fn P w K mg base T "_law_land" 3 2 den__law_land := by
  obtain ⟨fd, F⟩ := c.def_ 31 (d := d__law_land) rfl
  have nd := sc__law_land.nd
  exact fn_of (ps := ["_law_more", "_law_code"]) F (He.glo_ok KX GG (c.fact 58 (f := .glo "_law_land") rfl)) (F.bindsN fun _ _ _ _ _ _ us hl => match us, hl with | [_, _], _ => rfl) (fn_run (N := ["_law_more", "_law_code", "_law_rows", "_law_j", "_law_row", "_law_one"]) F sc__law_land (by decide) fun cdv A outer s H E hr h65 hx hp tk =>
    q_cons (q_own [] (i := 2) nd rfl (by first | exact .inl rfl | exact .inr rfl) (f_lst (da_nil)))
      (q_cons (q_forR [] hp rfl (i_range1R rfl (f_range KX GG c) (da_cons (d_op op_addAll a_add (d_int) (d_op op_mod a_mod (dv 0) (d_int))) (da_nil))) (g_nm (i := 3) nd rfl (by first | exact .inl rfl | exact .inr rfl)) (q_cons (q_asg [] (i := 4) nd rfl (by first | exact .inl rfl | exact .inr rfl) (d_call (ok__law_one_row KX GG c C tg lt) (hr.mono (by decide)) rfl hx (da_cons (d_call (ok__law_drawn KX GG c C tg lt) (hr.mono (by decide)) rfl hx (da_cons (dv 0) (da_cons (dv 3) (da_nil))) (aCons_len (aCons_len aNil_len))) (da_nil)) (aCons_len aNil_len)))
      (q_one (q_if [2] (t_cmp (op_notInAll h65) a_notIn (d_sl (dv 4) (o_some (d_int)) (o_some (d_int))) (d_lc (own := [("_law_one", 5)]) rfl nd (i_list (dv 2)) (blkOk_by (N := ["_law_more", "_law_code", "_law_rows", "_law_j", "_law_row", "_law_one"]) (sc := d__law_land.scope) (by decide +kernel)) (by decide) (fun _ _ _ _ _ => g_nm (i := 5) nd rfl (by first | exact .inl rfl | exact .inr rfl)) (fun _ _ _ _ _ => ts_nil) (fun _ _ _ _ _ => d_sl (dv 5) (o_some (d_int)) (o_some (d_int)))) (by with_unfolding_all rfl)) (q_one (q_app [] (pv 2) (dv 4))) (q_nil)))))
      (q_one (q_ret [2] (d_tup (da_cons (dv 1) (da_cons (d_ix (d_lst (da_cons (d_str) (da_cons (d_str) (da_cons (d_str) (da_cons (d_str) (da_cons (d_str) (da_nil))))))) (d_op op_mod a_mod (d_op op_fdivW a_fdiv (dv 0) (d_int)) (d_int)) (fun _ _ => rfl)) (da_cons (d_ix (d_lst (da_cons (d_str) (da_cons (d_str) (da_cons (d_str) (da_cons (d_str) (da_cons (d_str) (da_nil))))))) (d_op op_mod a_mod (d_op op_fdivW a_fdiv (dv 0) (d_int)) (d_int)) (fun _ _ => rfl)) (da_cons (d_callTy call_tuple_of a_tuple rfl (f_tuple KX GG c) bo_tuple (da_cons (dv 2) (da_nil))) (da_nil))))))))))
theorem sc__law_book : FnScope ["_law_more", "_law_codes_all", "_law_some", "_law_j", "_law_code"] ["_law_more"] (d__law_book).scope := ⟨rfl, rfl, rfl, by decide +kernel, rfl, by decide +kernel, by decide +kernel⟩
theorem ok__law_book (KX : K.In h) (GG : h.Ns mainGlobals mg) (c : He.SaysD fa fn K) (C : ClsX K csN) (tg : gtB K = true) (lt : LTs T mg base K tq) : Fn P w K mg base T "_law_book" 4 1 den__law_book := by
  obtain ⟨fd, F⟩ := c.def_ 32 (d := d__law_book) rfl
  have nd := sc__law_book.nd
  exact fn_of (ps := ["_law_more"]) F (He.glo_ok KX GG (c.fact 59 (f := .glo "_law_book") rfl)) (F.bindsN fun _ _ _ _ _ _ us hl => match us, hl with | [_], _ => rfl) (fn_run (N := ["_law_more", "_law_codes_all", "_law_some", "_law_j", "_law_code"]) F sc__law_book (by decide) fun cdv A outer s H E hr h65 hx hp tk =>
    q_cons (q_asg [] (i := 1) nd rfl (by first | exact .inl rfl | exact .inr rfl) (d_lst (da_cons (d_str) (da_cons (d_str) (da_cons (d_str) (da_cons (d_str) (da_cons (d_str) (da_cons (d_str) (da_cons (d_str) (da_nil))))))))))
      (q_cons (q_asg [] (i := 2) nd rfl (by first | exact .inl rfl | exact .inr rfl) (d_sl (d_lc (own := [("_law_j", 3), ("_law_code", 4)]) rfl nd (i_enum rfl (f_enumerate KX GG c) (da_cons (dv 1) (da_nil))) (blkOk_by (N := ["_law_more", "_law_codes_all", "_law_some", "_law_j", "_law_code"]) (sc := d__law_book.scope) (by decide +kernel)) (by decide) (fun _ _ _ _ _ => g_tp rfl (gs_cons (g_nm (i := 3) nd rfl (by first | exact .inl rfl | exact .inr rfl)) (gs_cons (g_nm (i := 4) nd rfl (by first | exact .inl rfl | exact .inr rfl)) (gs_nil)))) (fun _ _ _ _ _ => ts_one (t_cmp (op_eqD (u64 h65)) a_eq (d_op op_mod a_mod (d_call (ok__law_drawn KX GG c C tg lt) (hr.mono (by decide)) rfl passN (da_cons (dv 0) (da_cons (dv 3) (da_nil))) (aCons_len (aCons_len aNil_len))) (d_int)) (d_int) (nomark _))) (fun _ _ _ _ _ => dv 4)) (o_none) (o_some (d_int))))
      (q_cons (q_asg [] (i := 2) nd rfl (by first | exact .inl rfl | exact .inr rfl) (d_if (t_cmp (op_neD (u64 h65)) a_ne (dv 2) (d_lst (da_nil)) (nomark _)) (dv 2) (d_lst (da_cons (d_ix (dv 1) (d_op op_mod a_mod (dv 0) (d_int)) (fun _ _ => rfl)) (da_nil)))))
      (q_one (q_ret [] (d_callTy call_tuple_of a_tuple rfl (f_tuple KX GG c) bo_tuple (da_cons (d_lc (own := [("_law_j", 3), ("_law_code", 4)]) rfl nd (i_enum rfl (f_enumerate KX GG c) (da_cons (dv 2) (da_nil))) (blkOk_by (N := ["_law_more", "_law_codes_all", "_law_some", "_law_j", "_law_code"]) (sc := d__law_book.scope) (by decide +kernel)) (by decide) (fun _ _ _ _ _ => g_tp rfl (gs_cons (g_nm (i := 3) nd rfl (by first | exact .inl rfl | exact .inr rfl)) (gs_cons (g_nm (i := 4) nd rfl (by first | exact .inl rfl | exact .inr rfl)) (gs_nil)))) (fun _ _ _ _ _ => ts_nil) (fun _ _ _ _ _ => d_call (ok__law_land KX GG c C tg lt) (hr.mono (by decide)) rfl passN (da_cons (d_call (ok__law_drawn KX GG c C tg lt) (hr.mono (by decide)) rfl passN (da_cons (dv 0) (da_cons (d_op op_addAll a_add (d_int) (dv 3)) (da_nil))) (aCons_len (aCons_len aNil_len))) (da_cons (dv 4) (da_nil))) (aCons_len (aCons_len aNil_len)))) (da_nil))))))))
theorem sc__law_digits : FnScope ["_law_more", "_law_row", "_law_j"] ["_law_more", "_law_row"] (d__law_digits).scope := ⟨rfl, rfl, rfl, by decide +kernel, rfl, by decide +kernel, by decide +kernel⟩
theorem ok__law_digits (KX : K.In h) (GG : h.Ns mainGlobals mg) (c : He.SaysD fa fn K) (C : ClsX K csN) (tg : gtB K = true) (lt : LTs T mg base K tq) : Fn P w K mg base T "_law_digits" 2 2 den__law_digits := by
  obtain ⟨fd, F⟩ := c.def_ 33 (d := d__law_digits) rfl
  have nd := sc__law_digits.nd
  exact fn_of (ps := ["_law_more", "_law_row"]) F (He.glo_ok KX GG (c.fact 60 (f := .glo "_law_digits") rfl)) (F.bindsN fun _ _ _ _ _ _ us hl => match us, hl with | [_, _], _ => rfl) (fn_run (N := ["_law_more", "_law_row", "_law_j"]) F sc__law_digits (by decide) fun cdv A outer s H E hr h65 hx hp tk =>
    q_one (q_ret [] (d_op op_addAll a_add (d_ix (dv 1) (d_int) (fun _ _ => rfl)) (d_join (d_str) (d_lc (own := [("_law_j", 2)]) rfl nd (i_range1 rfl (f_range KX GG c) (da_cons (d_op op_sub a_sub (d_ix (dv 1) (d_int) (fun _ _ => rfl)) (d_callB call_len a_len rfl (f_len KX GG c) bo_len (da_cons (d_ix (dv 1) (d_int) (fun _ _ => rfl)) (da_nil)))) (da_nil))) (blkOk_by (N := ["_law_more", "_law_row", "_law_j"]) (sc := d__law_digits.scope) (by decide +kernel)) (by decide) (fun _ _ _ _ _ => g_nm (i := 2) nd rfl (by first | exact .inl rfl | exact .inr rfl)) (fun _ _ _ _ _ => ts_nil) (fun _ _ _ _ _ => d_callTy call_str_int a_str rfl (f_str KX GG c) bo_str (da_cons (d_op op_mod a_mod (d_op op_fdivW a_fdiv (d_call (ok__law_drawn KX GG c C tg lt) (hr.mono (by decide)) rfl passN (da_cons (dv 0) (da_cons (dv 2) (da_nil))) (aCons_len (aCons_len aNil_len))) (d_int)) (d_ix (d_lst (da_cons (d_int) (da_cons (d_int) (da_nil)))) (d_op op_mod a_mod (dv 0) (d_int)) (fun _ _ => rfl))) (da_nil))))))))
theorem sc__law_number : FnScope ["_law_book_here", "_law_more", "_law_land_here"] ["_law_book_here", "_law_more"] (d__law_number).scope := ⟨rfl, rfl, rfl, by decide +kernel, rfl, by decide +kernel, by decide +kernel⟩
theorem ok__law_number (KX : K.In h) (GG : h.Ns mainGlobals mg) (c : He.SaysD fa fn K) (C : ClsX K csN) (tg : gtB K = true) (lt : LTs T mg base K tq) : Fn P w K mg base T "_law_number" 3 2 den__law_number := by
  obtain ⟨fd, F⟩ := c.def_ 34 (d := d__law_number) rfl
  have nd := sc__law_number.nd
  exact fn_of (ps := ["_law_book_here", "_law_more"]) F (He.glo_ok KX GG (c.fact 61 (f := .glo "_law_number") rfl)) (F.bindsN fun _ _ _ _ _ _ us hl => match us, hl with | [_, _], _ => rfl) (fn_run (N := ["_law_book_here", "_law_more", "_law_land_here"]) F sc__law_number (by decide) fun cdv A outer s H E hr h65 hx hp tk =>
    q_cons (q_asg [] (i := 2) nd rfl (by first | exact .inl rfl | exact .inr rfl) (d_ix (dv 0) (d_op op_mod a_mod (dv 1) (d_callB call_len a_len rfl (f_len KX GG c) bo_len (da_cons (dv 0) (da_nil)))) (fun _ _ => rfl)))
      (q_one (q_ret [] (d_tup (da_cons (d_ix (dv 2) (d_int) (fun _ _ => rfl)) (da_cons (d_call (ok__law_digits KX GG c C tg lt) (hr.mono (by decide)) rfl hx (da_cons (d_call (ok__law_drawn KX GG c C tg lt) (hr.mono (by decide)) rfl hx (da_cons (dv 1) (da_cons (d_int) (da_nil))) (aCons_len (aCons_len aNil_len))) (da_cons (d_ix (d_ix (dv 2) (d_int) (fun _ _ => rfl)) (d_op op_mod a_mod (d_op op_fdivW a_fdiv (dv 1) (d_int)) (d_callB call_len a_len rfl (f_len KX GG c) bo_len (da_cons (d_ix (dv 2) (d_int) (fun _ _ => rfl)) (da_nil)))) (fun _ _ => rfl)) (da_nil))) (aCons_len (aCons_len aNil_len))) (da_nil)))))))
theorem sc_law : FnScope ["_law_script", "_law_k", "_law_more", "_law_book_here", "_law_j", "_law_number_here", "_law_land_here", "_law_home", "_law_way", "_law_text", "_law_told", "_law_alone", "_law_own_text", "_law_own"] ["_law_script"] (d_law).scope := ⟨rfl, rfl, rfl, by decide +kernel, rfl, by decide +kernel, by decide +kernel⟩
theorem ok_law (KX : K.In h) (GG : h.Ns mainGlobals mg) (c : He.SaysD fa fn K) (C : ClsX K csN) (tg : gtB K = true) : ∃ fd, (∀ (s : Shared) (u : Value), BindsTo s fd ⟨[u], []⟩ [("_law_script", u)]) ∧ ∀ base : Heap, LTs T mg base K tq → FnOk P w K mg base (L2N.CX P w) 10 (He.fAd K ("law", none)) fd ["_law_script"] (spD K T 1 den_law) := by
  obtain ⟨fd, F⟩ := c.def_ 35 (d := d_law) rfl
  have nd := sc_law.nd
  exact ⟨fd, fun s u => FunD.bindsA (ps := ["_law_script"]) F (fun _ _ _ _ _ _ us hl => match us, hl with | [_], _ => rfl) s [u] rfl, fun base lt => fn_runL (N := ["_law_script", "_law_k", "_law_more", "_law_book_here", "_law_j", "_law_number_here", "_law_land_here", "_law_home", "_law_way", "_law_text", "_law_told", "_law_alone", "_law_own_text", "_law_own"]) F sc_law (by decide) fun A outer s H E hr h65 hx hp tk =>
    q_cons (q_forR [] hp rfl (i_range1R rfl (f_range KX GG c) (da_cons (d_callB (call_max2 rfl) a_max2 rfl (f_max KX GG c) bo_max (da_cons (d_int) (da_cons (d_callB (call_min2 rfl) a_min2 rfl (f_min KX GG c) bo_min (da_cons (d_int) (da_cons (d_callB call_len a_len rfl (f_len KX GG c) bo_len (da_cons (dv 0) (da_nil))) (da_nil)))) (da_nil)))) (da_nil))) (g_nm (i := 1) nd rfl (by first | exact .inl rfl | exact .inr rfl)) (q_cons (q_asg [] (i := 2) nd rfl (by first | exact .inl rfl | exact .inr rfl) (d_call (ok__law_drawn KX GG c C tg lt) (hr.mono (by decide)) rfl hx (da_cons (d_call (ok__law_cell KX GG c C tg lt) (hr.mono (by decide)) rfl hx (da_cons (dv 0) (da_cons (dv 1) (da_nil))) (aCons_len (aCons_len aNil_len))) (da_cons (dv 1) (da_nil))) (aCons_len (aCons_len aNil_len))))
      (q_cons (q_asg [] (i := 3) nd rfl (by first | exact .inl rfl | exact .inr rfl) (d_call (ok__law_book KX GG c C tg lt) (hr.mono (by decide)) rfl hx (da_cons (d_op op_fdivW a_fdiv (dv 2) (d_int)) (da_nil)) (aCons_len aNil_len)))
      (q_one (q_forR [] hp rfl (i_range1R rfl (f_range KX GG c) (da_cons (d_int) (da_nil))) (g_nm (i := 4) nd rfl (by first | exact .inl rfl | exact .inr rfl)) (q_cons (q_asg [] (i := 5) nd rfl (by first | exact .inl rfl | exact .inr rfl) (d_call (ok__law_number KX GG c C tg lt) (hr.mono (by decide)) rfl hx (da_cons (dv 3) (da_cons (d_call (ok__law_drawn KX GG c C tg lt) (hr.mono (by decide)) rfl hx (da_cons (dv 2) (da_cons (d_op op_addAll a_add (d_int) (dv 4)) (da_nil))) (aCons_len (aCons_len aNil_len))) (da_nil))) (aCons_len (aCons_len aNil_len))))
      (q_cons (q_asg [] (i := 6) nd rfl (by first | exact .inl rfl | exact .inr rfl) (d_ix (d_lc (own := [("_law_own", 13)]) rfl nd (i_tup (dv 3)) (blkOk_by (N := ["_law_script", "_law_k", "_law_more", "_law_book_here", "_law_j", "_law_number_here", "_law_land_here", "_law_home", "_law_way", "_law_text", "_law_told", "_law_alone", "_law_own_text", "_law_own"]) (sc := d_law.scope) (by decide +kernel)) (by decide) (fun _ _ _ _ _ => g_nm (i := 13) nd rfl (by first | exact .inl rfl | exact .inr rfl)) (fun _ _ _ _ _ => ts_one (t_cmp (op_eqD (u64 h65)) a_eq (d_ix (dv 13) (d_int) (fun _ _ => rfl)) (d_ix (dv 5) (d_int) (fun _ _ => rfl)) (nomark _))) (fun _ _ _ _ _ => dv 13)) (d_int) (fun _ _ => rfl)))
      (q_one (q_for [] hp rfl (i_list (d_lc (own := [("_law_own", 13)]) rfl nd (i_tup (dv 3)) (blkOk_by (N := ["_law_script", "_law_k", "_law_more", "_law_book_here", "_law_j", "_law_number_here", "_law_land_here", "_law_home", "_law_way", "_law_text", "_law_told", "_law_alone", "_law_own_text", "_law_own"]) (sc := d_law.scope) (by decide +kernel)) (by decide) (fun _ _ _ _ _ => g_nm (i := 13) nd rfl (by first | exact .inl rfl | exact .inr rfl)) (fun _ _ _ _ _ => ts_nil) (fun _ _ _ _ _ => d_ix (dv 13) (d_int) (fun _ _ => rfl)))) (g_nm (i := 7) nd rfl (by first | exact .inl rfl | exact .inr rfl)) (q_cons (q_for [] hp rfl (i_list (d_lst (da_cons (d_str) (da_cons (d_str) (da_nil))))) (g_nm (i := 8) nd rfl (by first | exact .inl rfl | exact .inr rfl)) (q_cons (q_asg [] (i := 9) nd rfl (by first | exact .inl rfl | exact .inr rfl) (d_call (ok_written KX GG c C tg lt) (hr.mono (by decide)) rfl hx (da_cons (dv 3) (da_cons (dv 5) (da_cons (dv 8) (da_cons (dv 7) (da_nil))))) (aCons_len (aCons_len (aCons_len (aCons_len aNil_len))))))
      (q_one (q_if [] (PW.pt (t_or (t_cmp (op_neD (u64 h65)) a_ne (dv 9) (d_call (ok_written KX GG c C tg lt) (hr.mono (by decide)) rfl hx (da_cons (dv 3) (da_cons (dv 5) (da_cons (dv 8) (da_cons (d_ix (dv 6) (d_int) (fun _ _ => rfl)) (da_nil))))) (aCons_len (aCons_len (aCons_len (aCons_len aNil_len))))) (nomark _)) (t_or1 (t_cmp (op_notInAll h65) a_notIn (dv 5) (d_call (ok_readings KX GG c C tg lt) (hr.mono (by decide)) rfl hx (da_cons (dv 3) (da_cons (dv 9) (da_cons (dv 7) (da_nil)))) (aCons_len (aCons_len (aCons_len aNil_len)))) (by with_unfolding_all rfl))))) (q_one (q_ret [] (d_bl))) (q_nil)))))
      (q_cons (q_for [] hp rfl (i_list (d_lst (da_cons (d_call (ok_linked KX GG c C tg lt) (hr.mono (by decide)) rfl hx (da_cons (dv 3) (da_cons (dv 5) (da_nil))) (aCons_len (aCons_len aNil_len))) (da_cons (d_call (ok_dialled KX GG c C tg lt) (hr.mono (by decide)) rfl hx (da_cons (dv 3) (da_cons (dv 5) (da_cons (dv 7) (da_nil)))) (aCons_len (aCons_len (aCons_len aNil_len)))) (da_nil))))) (g_nm (i := 9) nd rfl (by first | exact .inl rfl | exact .inr rfl)) (q_one (q_if [] (t_cmp (op_notInAll h65) a_notIn (dv 5) (d_call (ok_readings KX GG c C tg lt) (hr.mono (by decide)) rfl hx (da_cons (dv 3) (da_cons (dv 9) (da_cons (dv 7) (da_nil)))) (aCons_len (aCons_len (aCons_len aNil_len)))) (by with_unfolding_all rfl)) (q_one (q_ret [] (d_bl))) (q_nil))))
      (q_cons (q_asg [] (i := 10) nd rfl (by first | exact .inl rfl | exact .inr rfl) (d_call (ok_ways_for KX GG c C tg lt) (hr.mono (by decide)) rfl hx (da_cons (dv 3) (da_cons (dv 5) (da_cons (dv 7) (da_nil)))) (aCons_len (aCons_len (aCons_len aNil_len)))))
      (q_cons (q_for [] hp rfl (i_list (d_lst (da_cons (d_str) (da_cons (d_str) (da_cons (d_str) (da_cons (d_str) (da_nil))))))) (g_nm (i := 8) nd rfl (by first | exact .inl rfl | exact .inr rfl)) (q_cons (q_asg [] (i := 9) nd rfl (by first | exact .inl rfl | exact .inr rfl) (d_call (ok_written KX GG c C tg lt) (hr.mono (by decide)) rfl hx (da_cons (dv 3) (da_cons (dv 5) (da_cons (dv 8) (da_cons (dv 7) (da_nil))))) (aCons_len (aCons_len (aCons_len (aCons_len aNil_len))))))
      (q_cons (q_asg [] (i := 11) nd rfl (by first | exact .inl rfl | exact .inr rfl) (d_cmp (op_eqD (u64 h65)) a_eq (d_call (ok_readings KX GG c C tg lt) (hr.mono (by decide)) rfl hx (da_cons (dv 3) (da_cons (dv 9) (da_cons (dv 7) (da_nil)))) (aCons_len (aCons_len (aCons_len aNil_len)))) (d_lst (da_cons (dv 5) (da_nil))) (nomark _)))
      (q_cons (q_if [] (PW.pt (t_or (t_cmp (op_neD (u64 h65)) a_ne (dv 11) (d_cmp (op_inAll h65) a_in (dv 8) (dv 10) (by with_unfolding_all rfl)) (nomark _)) (t_or1 (PW.pt (t_and (t_val (dv 11)) (t_and1 (t_cmp (op_neD (u64 h65)) a_ne (d_call (ok_read KX GG c C tg lt) (hr.mono (by decide)) rfl hx (da_cons (dv 3) (da_cons (dv 9) (da_cons (dv 7) (da_nil)))) (aCons_len (aCons_len (aCons_len aNil_len)))) (dv 5) (nomark _)))))))) (q_one (q_ret [] (d_bl))) (q_nil))
      (q_one (q_if [] (PW.pt (t_and (t_val (dv 11)) (t_and1 (t_cmp op_gtAll a_gt (d_callB call_len a_len rfl (f_len KX GG c) bo_len (da_cons (d_call (ok_shortest KX GG c C tg lt) (hr.mono (by decide)) rfl hx (da_cons (dv 3) (da_cons (dv 5) (da_cons (dv 7) (da_nil)))) (aCons_len (aCons_len (aCons_len aNil_len)))) (da_nil))) (d_callB call_len a_len rfl (f_len KX GG c) bo_len (da_cons (dv 9) (da_nil))) (nomark _))))) (q_one (q_ret [] (d_bl))) (q_nil)))))))
      (q_cons (q_asg [] (i := 12) nd rfl (by first | exact .inl rfl | exact .inr rfl) (d_op op_addAll a_add (d_ix (dv 6) (d_int) (fun _ _ => rfl)) (d_ix (dv 5) (d_int) (fun _ _ => rfl))))
      (q_cons (q_if [] (PW.pt (t_and (t_cmp (op_eqD (u64 h65)) a_eq (dv 7) (d_ix (dv 6) (d_int) (fun _ _ => rfl)) (nomark _)) (t_and1 (t_cmp (op_neD (u64 h65)) a_ne (d_call (ok_dialled KX GG c C tg lt) (hr.mono (by decide)) rfl hx (da_cons (dv 3) (da_cons (dv 5) (da_cons (dv 7) (da_nil)))) (aCons_len (aCons_len (aCons_len aNil_len)))) (dv 12) (nomark _))))) (q_one (q_ret [] (d_bl))) (q_nil))
      (q_cons (q_if [] (t_cmp (op_neD (u64 h65)) a_ne (d_repl (y := [32]) (z := []) (d1_call (ok_written KX GG c C tg lt) (hr.mono (by decide)) rfl hx (da1_tail (dv 3) (da1_tail (dv 5) (da1_head d1_str (da_cons (dv 7) (da_nil))))) (aCons_len (aCons_len (aCons_len (aCons_len aNil_len))))) (by decide) (by decide)) (d_call (ok_written KX GG c C tg lt) (hr.mono (by decide)) rfl hx (da_cons (dv 3) (da_cons (dv 5) (da_cons (d_str) (da_cons (dv 7) (da_nil))))) (aCons_len (aCons_len (aCons_len (aCons_len aNil_len))))) (nomark _)) (q_one (q_ret [] (d_bl))) (q_nil))
      (q_one (q_if [] (t_cmp (op_neD (u64 h65)) a_ne (d_repl (y := [32]) (z := []) (d1_call (ok_written KX GG c C tg lt) (hr.mono (by decide)) rfl hx (da1_tail (dv 3) (da1_tail (dv 5) (da1_head d1_str (da_cons (dv 7) (da_nil))))) (aCons_len (aCons_len (aCons_len (aCons_len aNil_len))))) (by decide) (by decide)) (d_call (ok_dialled KX GG c C tg lt) (hr.mono (by decide)) rfl hx (da_cons (dv 3) (da_cons (dv 5) (da_cons (dv 7) (da_nil)))) (aCons_len (aCons_len (aCons_len aNil_len)))) (nomark _)) (q_one (q_ret [] (d_bl))) (q_nil)))))))))))))))))))
      (q_one (q_ret [] (d_bl)))⟩
end
end DL
namespace DL
/-! a law that never looks at an exception -/
@[simp] theorem toRes_stk : toRes .stk = .stk := rfl
@[simp] theorem sNever_eq {ρ : EnvS} : sNever ρ = .stk := rfl
@[simp] theorem seq_stk {b : EnvS → Out} : Out.stk.seq b = .stk := rfl
@[simp] theorem out_stk {α : Type} {f : α → Out} : (Res.stk : Res α).out f = .stk := rfl
end DL
namespace DL
/-! ## texts that people write: pieces (plain) -/
def figC (c : Nat) : Bool := decide (c ∈ [48, 49, 50, 51, 52, 53, 54, 55, 56, 57])
def btwC (c : Nat) : Bool := decide (c ∈ [32, 45, 46, 47, 40, 41])
abbrev Pc := List Nat × Bool
/-- the last one takes a sign -/
def putLast (c : Nat) : List Pc → List Pc
  | [] => []
  | [p] => [(p.1 ++ [c], p.2)]
  | p :: q :: r => p :: putLast c (q :: r)
def lastP : List Pc → List Nat
  | [] => []
  | [p] => p.1
  | _ :: q :: r => lastP (q :: r)
structure PSt where
  ps : List Pc
  op : Bool
def pstep (s : PSt) (c : Nat) : Option PSt :=
  if figC c = true then some ⟨putLast c s.ps, s.op⟩
  else if btwC c = false then none
  else if c = 40 then (if s.op = true then none else some ⟨s.ps ++ [([], true)], true⟩)
  else if c = 41 then (if s.op = true ∧ lastP s.ps ≠ [] then some ⟨s.ps ++ [([], false)], false⟩ else none)
  else some s
def pwalk : List Nat → PSt → Option PSt
  | [], s => some s
  | c :: cs, s => (pstep s c).bind (pwalk cs)
/-- the pieces of what stands behind the plus -/
def pcs (rest : List Nat) : Option (List Pc) := (pwalk rest ⟨[([], false)], false⟩).bind fun s => if s.op = false ∧ (s.ps.any fun p => !p.1.isEmpty) = true then some (s.ps.filter fun p => !p.1.isEmpty) else none
/-! the law's marks -/
structure MSt where
  ms : List (Nat × Nat)
  br : Nat
  ins : Bool
  cnt : Nat
def mstep (s : MSt) (c : Nat) : Option MSt :=
  if c = 40 then (if s.ins = true then none else some ⟨s.ms, s.br + 1, true, s.ms.length⟩)
  else if c = 41 then (if s.ins = false ∨ s.ms.length = s.cnt then none else some { s with ins := false })
  else if figC c = true then some { s with ms := s.ms ++ [(c, if s.ins = true then s.br else 0)] }
  else if c ∉ [32, 45, 46, 47] then none
  else some s
def mwalk : List Nat → MSt → Option MSt
  | [], s => some s
  | c :: cs, s => (mstep s c).bind (mwalk cs)
/-- the marks of pieces; n: how many brackets stood ahead -/
def marksOf : Nat → List Pc → List (Nat × Nat)
  | _, [] => []
  | n, (ds, own) :: r => if own = true then ds.map (fun c => (c, n + 1)) ++ marksOf (n + 1) r else ds.map (fun c => (c, 0)) ++ marksOf n r
def owns (ps : List Pc) : Nat := (ps.filter fun p => p.2).length
theorem marks_t (n : Nat) (ds : List Nat) (r : List Pc) : marksOf n ((ds, true) :: r) = ds.map (fun c => (c, n + 1)) ++ marksOf (n + 1) r := rfl
theorem marks_f (n : Nat) (ds : List Nat) (r : List Pc) : marksOf n ((ds, false) :: r) = ds.map (fun c => (c, 0)) ++ marksOf n r := rfl
theorem marksOf_app : ∀ (ps qs : List Pc) (n : Nat), marksOf n (ps ++ qs) = marksOf n ps ++ marksOf (n + owns ps) qs
  | [], qs, n => by simp [marksOf, owns]
  | (ds, own) :: ps, qs, n => by
    rw [List.cons_append]
    cases own with
    | true =>
      have e : owns ((ds, true) :: ps) = owns ps + 1 := by simp [owns]
      rw [marks_t, marks_t, marksOf_app ps qs (n + 1), List.append_assoc, e, show n + 1 + owns ps = n + (owns ps + 1) by omega]
    | false =>
      have e : owns ((ds, false) :: ps) = owns ps := by simp [owns]
      rw [marks_f, marks_f, marksOf_app ps qs n, List.append_assoc, e]
theorem putLast_snoc (c : Nat) : ∀ (l : List Pc) (p : Pc), putLast c (l ++ [p]) = l ++ [(p.1 ++ [c], p.2)]
  | [], p => rfl
  | [a], p => rfl
  | a :: b :: l, p => by
    show a :: putLast c (b :: l ++ [p]) = _
    rw [show b :: l ++ [p] = (b :: l) ++ [p] from rfl, putLast_snoc c (b :: l) p]
    rfl
theorem lastP_snoc : ∀ (l : List Pc) (p : Pc), lastP (l ++ [p]) = p.1
  | [], p => rfl
  | [a], p => rfl
  | a :: b :: l, p => by
    show lastP (b :: l ++ [p]) = _
    exact lastP_snoc (b :: l) p
/-- both walks side by side: l, the pieces ahead; d, the last one's figures -/
structure Side (s : PSt) (m : MSt) : Prop where
  ex : ∃ l d, s.ps = l ++ [(d, s.op)] ∧ m.ms = marksOf 0 s.ps ∧ m.br = owns s.ps ∧ m.ins = s.op ∧ (s.op = true → m.cnt = (marksOf 0 l).length) ∧ ∀ p ∈ l, p.2 = true → p.1 ≠ []
theorem owns_snoc (l : List Pc) (d : List Nat) (b : Bool) : owns (l ++ [(d, b)]) = owns l + if b = true then 1 else 0 := by
  unfold owns
  rw [List.filter_append, List.length_append]
  cases b <;> rfl
theorem marks_snoc (l : List Pc) (d : List Nat) (b : Bool) (n : Nat) : marksOf n (l ++ [(d, b)]) = marksOf n l ++ d.map fun c => (c, if b = true then n + owns l + 1 else 0) := by
  rw [marksOf_app]
  cases b <;> simp [marksOf]
theorem side_step {s : PSt} {m : MSt} (h : Side s m) (c : Nat) : (pstep s c = none ∧ mstep m c = none) ∨ ∃ s' m', pstep s c = some s' ∧ mstep m c = some m' ∧ Side s' m' := by
  obtain ⟨l, d, e1, e2, e3, e4, e5, e6⟩ := h.ex
  have ne : ∀ {x : Nat}, figC x = true → x ≠ 40 ∧ x ≠ 41 := fun {x} hx => by
    unfold figC at hx
    simp at hx
    omega
  unfold pstep mstep
  by_cases hf : figC c = true
  · obtain ⟨n1, n2⟩ := ne hf
    rw [if_pos hf, if_neg n1, if_neg n2, if_pos hf]
    refine .inr ⟨_, _, rfl, rfl, ⟨l, d ++ [c], ?_, ?_, ?_, e4, fun ho => ?_, e6⟩⟩
    · show putLast c s.ps = _
      rw [e1, putLast_snoc]
    · show m.ms ++ [(c, if m.ins = true then m.br else 0)] = marksOf 0 (putLast c s.ps)
      rw [e2, e4, e3, e1, putLast_snoc, marks_snoc, marks_snoc, owns_snoc, List.map_append, List.append_assoc]
      cases s.op <;> simp
    · show m.br = owns (putLast c s.ps)
      rw [e3, e1, putLast_snoc, owns_snoc, owns_snoc]
    · exact e5 ho
  · rw [if_neg hf]
    by_cases hb : btwC c = false
    · rw [if_pos hb]
      have h4 : c ≠ 40 ∧ c ≠ 41 ∧ c ∉ [32, 45, 46, 47] := by
        unfold btwC at hb
        simp at hb ⊢
        omega
      rw [if_neg h4.1, if_neg h4.2.1, if_neg hf, if_pos h4.2.2]
      exact .inl ⟨rfl, rfl⟩
    · rw [if_neg hb]
      by_cases h40 : c = 40
      · rw [if_pos h40, if_pos h40, e4]
        by_cases ho : s.op = true
        · rw [if_pos ho, if_pos ho]
          exact .inl ⟨rfl, rfl⟩
        · rw [if_neg ho, if_neg ho]
          have ho' : s.op = false := by simpa using ho
          refine .inr ⟨_, _, rfl, rfl, ⟨s.ps, [], rfl, ?_, ?_, rfl, fun _ => ?_, fun p hp hp2 => ?_⟩⟩
          · show m.ms = marksOf 0 (s.ps ++ [([], true)])
            rw [e2, marks_snoc]; simp
          · show m.br + 1 = owns (s.ps ++ [([], true)])
            rw [e3, owns_snoc]; simp
          · show m.ms.length = _
            rw [e2]
          · rw [e1] at hp
            rcases List.mem_append.mp hp with hp | hp
            · exact e6 p hp hp2
            · rw [List.mem_singleton.mp hp, ho'] at hp2; cases hp2
      · rw [if_neg h40, if_neg h40]
        by_cases h41 : c = 41
        · rw [if_pos h41, if_pos h41, e4]
          have lp : lastP s.ps = d := by rw [e1, lastP_snoc]
          by_cases ho : s.op = true
          · have hc : m.ms.length = m.cnt ↔ d = [] := by
              rw [e2, e5 ho, e1, marks_snoc]
              simp
            by_cases hd : d = []
            · rw [if_neg (by rw [lp]; simp [hd]), if_pos (.inr (hc.mpr hd))]
              exact .inl ⟨rfl, rfl⟩
            · rw [if_pos ⟨ho, by rw [lp]; exact hd⟩, if_neg (by rw [hc]; simp [ho, hd])]
              refine .inr ⟨_, _, rfl, rfl, ⟨s.ps, [], rfl, ?_, ?_, rfl, (fun h => nomatch h), fun p hp hp2 => ?_⟩⟩
              · show m.ms = marksOf 0 (s.ps ++ [([], false)])
                rw [e2, marks_snoc]; simp
              · show m.br = owns (s.ps ++ [([], false)])
                rw [e3, owns_snoc]; simp
              · rw [e1] at hp
                rcases List.mem_append.mp hp with hp | hp
                · exact e6 p hp hp2
                · rw [List.mem_singleton.mp hp]; exact hd
          · have ho' : s.op = false := by simpa using ho
            rw [if_neg (by simp [ho']), if_pos (.inl ho')]
            exact .inl ⟨rfl, rfl⟩
        · rw [if_neg h41, if_neg h41, if_neg hf]
          have h4 : ¬ c ∉ [32, 45, 46, 47] := by
            unfold btwC at hb
            simp at hb ⊢
            omega
          rw [if_neg h4]
          exact .inr ⟨s, m, rfl, rfl, h⟩
theorem side_walk : ∀ (cs : List Nat) {s : PSt} {m : MSt}, Side s m → (pwalk cs s = none ∧ mwalk cs m = none) ∨ ∃ s' m', pwalk cs s = some s' ∧ mwalk cs m = some m' ∧ Side s' m'
  | [], s, m, h => .inr ⟨s, m, rfl, rfl, h⟩
  | c :: cs, s, m, h => by
    unfold pwalk mwalk
    rcases side_step h c with ⟨h1, h2⟩ | ⟨s', m', h1, h2, h'⟩
    · rw [h1, h2]; exact .inl ⟨rfl, rfl⟩
    · rw [h1, h2]; exact side_walk cs h'
theorem side0 (n : Nat) : Side ⟨[([], false)], false⟩ ⟨[], 0, false, n⟩ := ⟨[], [], rfl, rfl, rfl, rfl, (fun h => nomatch h), fun p h => nomatch h⟩
theorem marksOf_filter : ∀ (ps : List Pc) (n : Nat), (∀ p ∈ ps, p.2 = true → p.1 ≠ []) → marksOf n (ps.filter fun p => !p.1.isEmpty) = marksOf n ps
  | [], n, _ => rfl
  | (ds, own) :: ps, n, h => by
    have h' : ∀ p ∈ ps, p.2 = true → p.1 ≠ [] := fun p hp => h p (List.mem_cons_of_mem _ hp)
    cases ds with
    | nil =>
      have ho : own = false := by
        cases own with
        | false => rfl
        | true => exact absurd rfl (h ([], true) List.mem_cons_self rfl)
      subst ho
      rw [List.filter_cons_of_neg (by simp), marksOf_filter ps n h']
      simp [marksOf]
    | cons d ds =>
      rw [List.filter_cons_of_pos (by simp)]
      unfold marksOf
      rw [marksOf_filter ps n h', marksOf_filter ps (n + 1) h']
/-- the law's marks, told by the pieces -/
def mks (rest : List Nat) : Option (List (Nat × Nat)) := (mwalk rest ⟨[], 0, false, 0⟩).bind fun m => if m.ms ≠ [] ∧ m.ins = false then some m.ms else none
theorem mks_eq (rest : List Nat) : mks rest = (pcs rest).map (marksOf 0) := by
  unfold mks pcs
  rcases side_walk rest (side0 0) with ⟨h1, h2⟩ | ⟨s, m, h1, h2, h⟩
  · rw [h1, h2]; rfl
  · rw [h1, h2]
    obtain ⟨l, d, e1, e2, e3, e4, e5, e6⟩ := h.ex
    simp only [Option.bind_some]
    rw [e4]
    by_cases ho : s.op = false
    · have all : ∀ p ∈ s.ps, p.2 = true → p.1 ≠ [] := fun p hp hp2 => by
        rw [e1] at hp
        rcases List.mem_append.mp hp with hp | hp
        · exact e6 p hp hp2
        · rw [List.mem_singleton.mp hp, ho] at hp2; cases hp2
      have hm : m.ms ≠ [] ↔ (s.ps.any fun p => !p.1.isEmpty) = true := by
        rw [e2]
        have key : ∀ (ps : List Pc) (n : Nat), marksOf n ps ≠ [] ↔ (ps.any fun p => !p.1.isEmpty) = true := by
          intro ps
          induction ps with
          | nil => intro n; simp [marksOf]
          | cons p ps ih =>
            intro n
            obtain ⟨ds, own⟩ := p
            rw [List.any_cons, Bool.or_eq_true, ← ih n]
            cases ds with
            | nil =>
              cases own with
              | true =>
                have := ih (n + 1)
                simp [marksOf, this, ih n]
              | false => simp [marksOf]
            | cons d ds => cases own <;> simp [marksOf]
        exact key s.ps 0
      by_cases ha : (s.ps.any fun p => !p.1.isEmpty) = true
      · rw [if_pos ⟨hm.mpr ha, ho⟩, if_pos ⟨ho, ha⟩]
        simp only [Option.map_some]
        rw [marksOf_filter s.ps 0 all, e2]
      · rw [if_neg (fun z => ha (hm.mp z.1)), if_neg (fun z => ha z.2)]; rfl
    · rw [if_neg (fun z => ho z.2), if_neg (fun z => ho z.1)]; rfl
end DL
namespace DL
/-! ## pieces, on data -/
theorem need_t : den_need [.bl true] = .ok .non := by simp [den_need, runB, m_need, startS]
theorem need_f : den_need [.bl false] = .stk := by simp [den_need, runB, m_need, startS]
theorem stripL_sub (s cs : List Nat) : (∀ c ∈ stripL s cs, c ∈ s) ∧ (stripL s cs).length ≤ s.length := by
  unfold stripL PySem.Txt.stripChars PySem.Txt.stripBy
  split
  · simp
  · unfold PySem.stripped
    show (∀ c ∈ (Array.extract _ _ _).toList, c ∈ s) ∧ (Array.extract _ _ _).toList.length ≤ s.length
    rw [Array.toList_extract]
    simp only [List.extract]
    refine ⟨fun c hc => List.mem_of_mem_drop (List.mem_of_mem_take hc), ?_⟩
    simp
    omega
def TxtOk (s : List Nat) : Prop := s.length ≤ 10000 ∧ ∀ c ∈ s, c < 1000
theorem okS_txt {s : List Nat} (h : TxtOk s) : okSB s = true := by
  unfold okSB
  simp only [Bool.and_eq_true, decide_eq_true_eq, List.all_eq_true]
  exact ⟨by have := h.1; omega, fun c hc => by have := h.2 c hc; omega⟩
theorem strip_ok {s : List Nat} (cs : List Nat) (h : TxtOk s) : stripS s (.str cs) = .ok (.str (stripL s cs)) := by
  obtain ⟨h1, h2⟩ := stripL_sub s cs
  have : TxtOk (stripL s cs) := ⟨Nat.le_trans h2 h.1, fun c hc => h.2 c (h1 c hc)⟩
  simp only [stripS, okS_txt this, if_true]
def pcT (p : Pc) : Tr := .lst [.leaf (.str p.1), .leaf (.bl p.2)]
def pcL (p : Pc) : D := .lst [.str p.1, .bl p.2]
def pcD (p : Pc) : D := .tup [.str p.1, .bl p.2]
theorem toD_pcs : ∀ ps : List Pc, toDs (ps.map pcT) = some (ps.map pcL)
  | [] => by simp [toDs]
  | p :: ps => by simp [toDs, toD_pcs ps, pcT, pcL, Tr.toD]
theorem ix_lastS {l : List D} {x : D} : ixD (.lst (l ++ [x])) (.int (-1)) = .ok x := by
  rw [ix_last (by simp)]; simp
theorem freeze_pcs {ρ : EnvS} {i : Nat} {ps : List Pc} (h : ρ[i]? = some (.tre (.lst (ps.map pcT)))) : freeze [i] ρ = ρ.set i (.val (.lst (ps.map pcL))) := by
  simp only [freeze, h, Tr.toD, toD_pcs, Option.map_some]
theorem neg1 : negD (.int 1) = .ok (.int (-1)) := rfl
theorem in_figs (c : Nat) : inD (.str [c]) (.str [48, 49, 50, 51, 52, 53, 54, 55, 56, 57]) = .ok (.bl (figC c)) := by simp [figC]
theorem in_btw (c : Nat) : inD (.str [c]) (.str [32, 45, 46, 47, 40, 41]) = .ok (.bl (btwC c)) := by simp [btwC]
/-- the body of the loop over the signs -/
abbrev pBody : EnvS → Out := sSeq (sDrop [] (mCall den_need (aCons (mOr (m2 inD (mVar 5) (mC (.str [48, 49, 50, 51, 52, 53, 54, 55, 56, 57]))) (m2 inD (mVar 5) (mC (.str [32, 45, 46, 47, 40, 41])))) (aNil))))
      (sIf [] (mB (m2 inD (mVar 5) (mC (.str [48, 49, 50, 51, 52, 53, 54, 55, 56, 57])))) (sPut2 [3] 3 (m1 negD (mC (.int 1))) (mC (.int 0)) (m2 addD (m2 ixD (m2 ixD (mVar 3) (m1 negD (mC (.int 1)))) (mC (.int 0))) (mVar 5))) (sIf [] (mB (m2 eqD (mVar 5) (mC (.str [40])))) (sSeq (sDrop [] (mCall den_need (aCons (mNot (mVar 4)) (aNil))))
      (sSeq (sAsg [] 4 (mC (.bl true)))
      (sAppT [] 3 (fLst (aCons (mC (.str [])) (aCons (mC (.bl true)) (aNil))))))) (sIf [] (mB (m2 eqD (mVar 5) (mC (.str [41])))) (sSeq (sDrop [3] (mCall den_need (aCons (mAnd (mVar 4) (m2 neD (m2 ixD (m2 ixD (mVar 3) (m1 negD (mC (.int 1)))) (mC (.int 0))) (mC (.str [])))) (aNil))))
      (sSeq (sAsg [] 4 (mC (.bl false)))
      (sAppT [] 3 (fLst (aCons (mC (.str [])) (aCons (mC (.bl false)) (aNil))))))) (sNil))))
abbrev pState (s0 s1 s2 : Sl) (ps : List Pc) (op : Bool) (z5 z6 z7 z8 : Sl) : EnvS := [s0, s1, s2, .tre (.lst (ps.map pcT)), .val (.bl op), z5, z6, z7, z8]
theorem put2_last (s0 s1 s2 : Sl) (l : List Pc) (d : List Nat) (b op : Bool) (c : Nat) (hd : d.length ≤ 900000) (z6 z7 z8 : Sl) :
    sPut2 [3] 3 (m1 negD (mC (.int 1))) (mC (.int 0)) (m2 addD (m2 ixD (m2 ixD (mVar 3) (m1 negD (mC (.int 1)))) (mC (.int 0))) (mVar 5)) (pState s0 s1 s2 (l ++ [(d, b)]) op (.val (.str [c])) z6 z7 z8) = .next (pState s0 s1 s2 (l ++ [(d ++ [c], b)]) op (.val (.str [c])) z6 z7 z8) := by
  have fz : freeze [3] (pState s0 s1 s2 (l ++ [(d, b)]) op (.val (.str [c])) z6 z7 z8) = [s0, s1, s2, .val (.lst ((l ++ [(d, b)]).map pcL)), .val (.bl op), .val (.str [c]), z6, z7, z8] := by
    rw [freeze_pcs rfl]; rfl
  unfold sPut2
  simp only [List.getElem?_cons_succ, List.getElem?_cons_zero, fz]
  have e1 : (m2 addD (m2 ixD (m2 ixD (mVar 3) (m1 negD (mC (.int 1)))) (mC (.int 0))) (mVar 5)) (vis [s0, s1, s2, .val (.lst ((l ++ [(d, b)]).map pcL)), .val (.bl op), .val (.str [c]), z6, z7, z8]) = .ok (.str (d ++ [c])) := by
    simp only [List.map_append, List.map_cons, List.map_nil]
    simp [ix_lastS, pcL]
    omega
  rw [e1]
  simp only [Res.bind_ok, m1_eq, mC_eq, neg1, flat_str, if_true]
  unfold putS2
  simp only [List.getElem?_cons_succ, List.getElem?_cons_zero]
  have e2 : sub1 ((l ++ [(d, b)]).map pcT) (-1) = some (l.length, [.leaf (.str d), .leaf (.bl b)]) := by
    unfold sub1
    have hl : ((l ++ [(d, b)]).map pcT).length = l.length + 1 := by simp
    have hn : L2.ixN ((l ++ [(d, b)]).map pcT).length (-1) = some l.length := by
      unfold L2.ixN
      rw [if_neg (by decide), if_pos (by rw [hl]; omega), hl]
      congr 1; omega
    rw [hn]
    simp [pcT]
  rw [e2]
  have e3 : L2.ixN [Tr.leaf (.str d), Tr.leaf (.bl b)].length 0 = some 0 := rfl
  simp only [e3]
  simp [pcT]
theorem appT_new (s0 s1 s2 : Sl) (ps : List Pc) (op : Bool) (b : Bool) (z5 z6 z7 z8 : Sl) (hl : ps.length < 1000000) :
    sAppT [] 3 (fLst (aCons (mC (.str [])) (aCons (mC (.bl b)) (aNil)))) (pState s0 s1 s2 ps op z5 z6 z7 z8) = .next (pState s0 s1 s2 (ps ++ [([], b)]) op z5 z6 z7 z8) := by
  unfold sAppT
  simp [LIM, leaves, pcT, hl]
theorem loop_pcs (s0 s1 s2 : Sl) : ∀ (cs : List Nat) (l : List Pc) (d : List Nat) (op : Bool) (z5 z6 z7 z8 : Sl), l.length + d.length + cs.length ≤ 10000 →
    ∃ z5', forS (.nm 5) pBody (cs.map fun c => .str [c]) (pState s0 s1 s2 (l ++ [(d, op)]) op z5 z6 z7 z8) = match pwalk cs ⟨l ++ [(d, op)], op⟩ with
      | none => .stk
      | some s => .next (pState s0 s1 s2 s.ps s.op z5' z6 z7 z8)
  | [], l, d, op, z5, z6, z7, z8, _ => ⟨z5, rfl⟩
  | c :: cs, l, d, op, z5, z6, z7, z8, hz => by
    have hz' : l.length + d.length + (cs.length + 1) ≤ 10000 := by simpa using hz
    rw [List.map_cons, forS]
    simp only [bindT_nm]
    unfold pwalk pstep
    have b0 : (pState s0 s1 s2 (l ++ [(d, op)]) op z5 z6 z7 z8).set 5 (.val (.str [c])) = pState s0 s1 s2 (l ++ [(d, op)]) op (.val (.str [c])) z6 z7 z8 := rfl
    rw [b0]
    by_cases hf : figC c = true
    · have e : pBody (pState s0 s1 s2 (l ++ [(d, op)]) op (.val (.str [c])) z6 z7 z8) = .next (pState s0 s1 s2 (l ++ [(d ++ [c], op)]) op (.val (.str [c])) z6 z7 z8) := by
        unfold pBody
        simp only [sSeq_eq, sDrop_eq, sIf_eq]
        have p2 := put2_last s0 s1 s2 l d op op c (by omega) z6 z7 z8
        simp [-in_sign, pState, in_figs, hf, need_t] at p2 ⊢
        exact p2
      rw [e]
      obtain ⟨z5', ih⟩ := loop_pcs s0 s1 s2 cs l (d ++ [c]) op (.val (.str [c])) z6 z7 z8 (by simp; omega)
      refine ⟨z5', ?_⟩
      simp only [ih, if_pos hf, Option.bind_some, putLast_snoc]
    · have hf' : figC c = false := by simpa using hf
      by_cases hb : btwC c = false
      · refine ⟨z5, ?_⟩
        have e : pBody (pState s0 s1 s2 (l ++ [(d, op)]) op (.val (.str [c])) z6 z7 z8) = .stk := by
          unfold pBody
          simp [-in_sign, pState, in_figs, in_btw, hf', hb, need_f]
        rw [e]
        simp only [if_neg hf, if_pos hb, Option.bind_none]
      · have hb' : btwC c = true := by simpa using hb
        simp only [if_neg hf, if_neg hb]
        by_cases h40 : c = 40
        · subst h40
          by_cases ho : op = true
          · subst ho
            refine ⟨z5, ?_⟩
            have e : pBody (pState s0 s1 s2 (l ++ [(d, true)]) true (.val (.str [40])) z6 z7 z8) = .stk := by
              unfold pBody
              simp [-in_sign, pState, in_figs, in_btw, hf', hb', need_t, need_f]
            rw [e]
            simp
          · have ho' : op = false := by simpa using ho
            subst ho'
            have e : pBody (pState s0 s1 s2 (l ++ [(d, false)]) false (.val (.str [40])) z6 z7 z8) = .next (pState s0 s1 s2 ((l ++ [(d, false)]) ++ [([], true)]) true (.val (.str [40])) z6 z7 z8) := by
              have a := appT_new s0 s1 s2 (l ++ [(d, false)]) true true (.val (.str [40])) z6 z7 z8 (by simp; omega)
              unfold pBody
              simp [-in_sign, pState, in_figs, in_btw, hf', hb', need_t, need_f] at a ⊢
              exact a
            rw [e]
            obtain ⟨z5', ih⟩ := loop_pcs s0 s1 s2 cs (l ++ [(d, false)]) [] true (.val (.str [40])) z6 z7 z8 (by simp; omega)
            refine ⟨z5', ?_⟩
            simp only [ih]
            simp
        · by_cases h41 : c = 41
          · subst h41
            have lp : lastP (l ++ [(d, op)]) = d := lastP_snoc l (d, op)
            by_cases ho : op = true ∧ d ≠ []
            · obtain ⟨ho1, hd⟩ := ho
              subst ho1
              have e : pBody (pState s0 s1 s2 (l ++ [(d, true)]) true (.val (.str [41])) z6 z7 z8) = .next (pState s0 s1 s2 ((l ++ [(d, true)]) ++ [([], false)]) false (.val (.str [41])) z6 z7 z8) := by
                have a := appT_new s0 s1 s2 (l ++ [(d, true)]) false false (.val (.str [41])) z6 z7 z8 (by simp; omega)
                have fz : freeze [3] (pState s0 s1 s2 (l ++ [(d, true)]) true (.val (.str [41])) z6 z7 z8) = [s0, s1, s2, .val (.lst (l.map pcL ++ [pcL (d, true)])), .val (.bl true), .val (.str [41]), z6, z7, z8] := by
                  rw [freeze_pcs rfl]; simp
                unfold pBody
                simp [-in_sign, pState, in_figs, in_btw, hf', hb', need_t, need_f] at a fz ⊢
                rw [fz]
                simp [-in_sign, ix_lastS, pcL, hd, need_t]
                exact a
              rw [e]
              obtain ⟨z5', ih⟩ := loop_pcs s0 s1 s2 cs (l ++ [(d, true)]) [] false (.val (.str [41])) z6 z7 z8 (by simp; omega)
              refine ⟨z5', ?_⟩
              simp only [ih]
              simp [lp, hd]
            · refine ⟨z5, ?_⟩
              have e : pBody (pState s0 s1 s2 (l ++ [(d, op)]) op (.val (.str [41])) z6 z7 z8) = .stk := by
                have fz : freeze [3] (pState s0 s1 s2 (l ++ [(d, op)]) op (.val (.str [41])) z6 z7 z8) = [s0, s1, s2, .val (.lst (l.map pcL ++ [pcL (d, op)])), .val (.bl op), .val (.str [41]), z6, z7, z8] := by
                  rw [freeze_pcs rfl]; simp
                unfold pBody
                simp [-in_sign, pState, in_figs, in_btw, hf', hb', need_t, need_f] at fz ⊢
                rw [fz]
                cases op with
                | false => simp [need_f]
                | true =>
                  have hd : d = [] := by
                    by_cases hd : d = []
                    · exact hd
                    · exact absurd ⟨rfl, hd⟩ ho
                  simp [-in_sign, ix_lastS, pcL, hd, need_f]
              rw [e]
              rw [lp] at *
              simp only [h40, if_false, if_true, if_neg ho, Option.bind_none]
          · have e : pBody (pState s0 s1 s2 (l ++ [(d, op)]) op (.val (.str [c])) z6 z7 z8) = .next (pState s0 s1 s2 (l ++ [(d, op)]) op (.val (.str [c])) z6 z7 z8) := by
              unfold pBody
              simp [-in_sign, pState, in_figs, in_btw, hf', hb', need_t, need_f, h40, h41]
            rw [e]
            obtain ⟨z5', ih⟩ := loop_pcs s0 s1 s2 cs l d op (.val (.str [c])) z6 z7 z8 (by omega)
            refine ⟨z5', ?_⟩
            simp only [ih, if_neg h40, if_neg h41, Option.bind_some]
end DL
namespace DL
def plusB (s : List Nat) : Bool := decide ((stripL s [32]).take 1 = [43])
def restL (s : List Nat) : List Nat := if plusB s = true then (stripL s [32]).drop 1 else stripL s [32]
def ppieces (s : List Nat) : Option (Bool × List Pc) := if s.length ≤ 60 then (pcs (restL s)).map fun q => (plusB s, q) else none
theorem cut1 (l : List Nat) : cutL l none (some 1) = l.take 1 := cut_to l 1
theorem cutf1 (l : List Nat) : cutL l (some 1) none = l.drop 1 := cut_from l 1
theorem restL_len (s : List Nat) : (restL s).length ≤ s.length := by
  have := (stripL_sub s [32]).2
  unfold restL
  split
  · simp; omega
  · exact this
theorem restL_mem {s : List Nat} {c : Nat} (h : c ∈ restL s) : c ∈ s := by
  unfold restL at h
  split at h
  · exact (stripL_sub s [32]).1 c (List.mem_of_mem_drop h)
  · exact (stripL_sub s [32]).1 c h
theorem lc_any (ρ : EnvD) (h0 : ρ.length = 9) (ps : List Pc) : lcG (.nm 6) bYes (m2 neD (m2 ixD (mVar 6) (mC (.int 0))) (mC (.str []))) ρ (ps.map pcL) = .ok (ps.map fun p => .bl (!p.1.isEmpty)) := lcG_all pcL (fun p => .bl (!p.1.isEmpty)) ps fun p hp => by
  match ρ, h0 with
  | [a0, a1, a2, a3, a4, a5, a6, a7, a8], _ =>
    refine ⟨_, bindT_nm, ?_⟩
    obtain ⟨d, b⟩ := p
    cases d <;> simp [pcL]
theorem lc_keep (ρ : EnvD) (h0 : ρ.length = 9) (ps : List Pc) : lcG (.tp [.nm 7, .nm 8]) (mB (m2 neD (mVar 7) (mC (.str [])))) (mTup (aCons (mVar 7) (aCons (mVar 8) (aNil)))) ρ (ps.map pcL) = .ok ((ps.filter fun p => !p.1.isEmpty).map pcD) := lcG_map pcL (fun p => !p.1.isEmpty) pcD ps fun p hp => by
  match ρ, h0 with
  | [a0, a1, a2, a3, a4, a5, a6, a7, a8], _ =>
    obtain ⟨d, b⟩ := p
    refine ⟨_, by simp [pcL]; rfl, ?_, ?_⟩
    · cases d <;> simp
    · simp [pcD]
theorem pieces_d (s : List Nat) (h : TxtOk s) : den_pieces_of [.str s] = match ppieces s with
    | none => .stk
    | some (pl, qs) => .ok (.tup [.bl pl, .lst (qs.map pcD)]) := by
  by_cases hl : s.length ≤ 60
  · have hl' : (s.length : Int) ≤ 60 := by omega
    have hr := restL_len s
    obtain ⟨z5, lp⟩ := loop_pcs (.val (.str s)) (.val (.str (restL s))) (.val (.bl (plusB s))) (restL s) [] [] false .no .no .no .no (by simp; omega)
    unfold ppieces
    rw [if_pos hl]
    have e1 : iterS (.str (restL s)) = .ok ((restL s).map fun c => .str [c]) := rfl
    have st : (if plusB s = true then Res.ok (D.str (stripL s [32]).tail) else .ok (.str (stripL s [32]))) = .ok (.str (restL s)) := by
      unfold restL
      split <;> simp
    have pb : decide ((stripL s [32]).take 1 = [43]) = plusB s := rfl
    have l0 : leaves [.str [], .bl false] = pcT ([], false) := rfl
    simp [-in_sign, den_pieces_of, runB, m_pieces_of, startS, hl', need_t, strip_ok [32] h, cut1, cutf1, pb, st, sParS, mL1T, mVal, flatSl, flatT, flatTs, leaves]
    simp [-in_sign, pcT, pState] at lp
    rw [lp]
    unfold pcs
    cases hw : pwalk (restL s) ⟨[([], false)], false⟩ with
    | none => simp
    | some st' =>
      obtain ⟨ps, op⟩ := st'
      simp only [Option.bind_some]
      have fz : freeze [3] [Sl.val (.str s), .val (.str (restL s)), .val (.bl (plusB s)), .tre (.lst (ps.map pcT)), .val (.bl op), z5, .no, .no, .no] = [Sl.val (.str s), .val (.str (restL s)), .val (.bl (plusB s)), .val (.lst (ps.map pcL)), .val (.bl op), z5, .no, .no, .no] := by
        rw [freeze_pcs rfl]; rfl
      obtain ⟨A, hA⟩ : ∃ A, (ps.any fun p => !p.1.isEmpty) = A := ⟨_, rfl⟩
      have an : anyF [.lst (ps.map fun p => .bl (!p.1.isEmpty))] = .ok (.bl A) := by rw [any_map, hA]
      rw [hA]
      generalize hF : (ps.filter fun p => !p.1.isEmpty) = F
      have lk := fun (ρ : EnvD) (h0 : ρ.length = 9) => lc_keep ρ h0 ps
      rw [hF] at lk
      simp [fz]
      cases op with
      | true => simp [need_f]
      | false =>
        simp
        rw [lc_any _ (by simp)]
        simp [-any_map, an]
        cases A with
        | true =>
          simp [need_t, fz]
          rw [lk _ (by simp)]
          simp
        | false => simp [need_f]
  · have hl' : ¬ (s.length : Int) ≤ 60 := by omega
    unfold ppieces
    rw [if_neg hl]
    simp [den_pieces_of, runB, m_pieces_of, startS, hl', need_f]
/-! ## the law's marks, on data -/
def mkD (p : Nat × Nat) : D := .tup [.str [p.1], .int (p.2 : Nat)]
abbrev lBody : EnvS → Out := sIf [] (mB (m2 eqD (mVar 6) (mC (.str [40])))) (sSeq (sIf [] (mB (mVar 5)) (sRet [] (mC .non)) (sNil))
      (sPar3S [3] 5 4 7 (mVal (mC (.bl true))) (mVal (m2 addD (mVar 4) (mC (.int 1)))) (mVal (mCall lenF (aCons (mVar 3) (aNil)))))) (sIf [] (mB (m2 eqD (mVar 6) (mC (.str [41])))) (sSeq (sIf [3] (bOr (bNot (mB (mVar 5))) (mB (m2 eqD (mCall lenF (aCons (mVar 3) (aNil))) (mVar 7)))) (sRet [] (mC .non)) (sNil))
      (sAsg [] 5 (mC (.bl false)))) (sIf [] (mB (m2 inD (mVar 6) (mC (.str [48, 49, 50, 51, 52, 53, 54, 55, 56, 57])))) (sApp [] 3 (mTup (aCons (mVar 6) (aCons (mIf (mB (mVar 5)) (mVar 4) (mC (.int 0))) (aNil))))) (sIf [] (mB (m2 notInD (mVar 6) (mC (.str [32, 45, 46, 47])))) (sRet [] (mC .non)) (sNil))))
abbrev lState (s0 s1 s2 : Sl) (m : MSt) (z6 z7 : Sl) : EnvS := [s0, s1, s2, .own (m.ms.map mkD), .val (.int (m.br : Nat)), .val (.bl m.ins), z6, z7]
theorem app_mark (s0 s1 s2 : Sl) (m : MSt) (c : Nat) (z7 : Sl) (hl : m.ms.length < 1000000) : sApp [] 3 (mTup (aCons (mVar 6) (aCons (mIf (mB (mVar 5)) (mVar 4) (mC (.int 0))) (aNil)))) (lState s0 s1 s2 m (.val (.str [c])) z7) = .next (lState s0 s1 s2 { m with ms := m.ms ++ [(c, if m.ins = true then m.br else 0)] } (.val (.str [c])) z7) := by
  unfold sApp
  obtain ⟨ms, br, ins, cnt⟩ := m
  cases ins <;> simp [LIM, mkD, hl, lState] at hl ⊢ <;> simp [hl]
theorem loop_mks (s0 s1 s2 : Sl) : ∀ (cs : List Nat) (m : MSt) (z6 z7 : Sl), m.ms.length + cs.length ≤ 10000 → (m.ins = true → z7 = .val (.int (m.cnt : Nat))) →
    ∃ z6' z7', forS (.nm 6) lBody (cs.map fun c => .str [c]) (lState s0 s1 s2 m z6 z7) = match mwalk cs m with
      | none => .ret .non
      | some m' => .next (lState s0 s1 s2 m' z6' z7')
  | [], m, z6, z7, _, _ => ⟨z6, z7, rfl⟩
  | c :: cs, m, z6, z7, hz, h7 => by
    have hz' : m.ms.length + (cs.length + 1) ≤ 10000 := by simpa using hz
    rw [List.map_cons, forS]
    simp only [bindT_nm]
    unfold mwalk mstep
    have b0 : (lState s0 s1 s2 m z6 z7).set 6 (.val (.str [c])) = lState s0 s1 s2 m (.val (.str [c])) z7 := rfl
    rw [b0]
    have fz : freeze [3] (lState s0 s1 s2 m (.val (.str [c])) z7) = [s0, s1, s2, .val (.lst (m.ms.map mkD)), .val (.int (m.br : Nat)), .val (.bl m.ins), .val (.str [c]), z7] := by
      rw [freeze_own rfl]; simp
    by_cases h40 : c = 40
    · subst h40
      by_cases hi : m.ins = true
      · refine ⟨z6, z7, ?_⟩
        have e : lBody (lState s0 s1 s2 m (.val (.str [40])) z7) = .ret .non := by
          unfold lBody
          simp [hi]
        rw [e]
        simp [hi]
      · have hi' : m.ins = false := by simpa using hi
        have e : lBody (lState s0 s1 s2 m (.val (.str [40])) z7) = .next (lState s0 s1 s2 ⟨m.ms, m.br + 1, true, m.ms.length⟩ (.val (.str [40])) (.val (.int (m.ms.length : Nat)))) := by
          unfold lBody
          rw [hi'] at fz
          simp [hi', sPar3S, mVal, fz, flatSl]
        rw [e]
        obtain ⟨z6', z7', ih⟩ := loop_mks s0 s1 s2 cs ⟨m.ms, m.br + 1, true, m.ms.length⟩ (.val (.str [40])) (.val (.int (m.ms.length : Nat))) (by simp; omega) (fun _ => rfl)
        exact ⟨z6', z7', by simp only [ih]; simp [hi']⟩
    · by_cases h41 : c = 41
      · subst h41
        by_cases hi : m.ins = true
        · have h7' := h7 hi
          subst h7'
          by_cases hc : m.ms.length = m.cnt
          · refine ⟨z6, .no, ?_⟩
            have e : lBody (lState s0 s1 s2 m (.val (.str [41])) (.val (.int (m.cnt : Nat)))) = .ret .non := by
              unfold lBody
              simp [lState, hi] at fz ⊢
              simp [fz, hc]
            rw [e]
            simp [hi, hc]
          · have hc' : ¬ (m.ms.length : Int) = (m.cnt : Nat) := by omega
            have e : lBody (lState s0 s1 s2 m (.val (.str [41])) (.val (.int (m.cnt : Nat)))) = .next (lState s0 s1 s2 { m with ins := false } (.val (.str [41])) (.val (.int (m.cnt : Nat)))) := by
              unfold lBody
              simp [lState, hi] at fz ⊢
              simp [fz]
              rw [if_neg hc']
              simp
            rw [e]
            obtain ⟨z6', z7', ih⟩ := loop_mks s0 s1 s2 cs { m with ins := false } (.val (.str [41])) (.val (.int (m.cnt : Nat))) (by simp; omega) (fun h => by cases h)
            exact ⟨z6', z7', by simp only [ih]; simp [hi, hc]⟩
        · have hi' : m.ins = false := by simpa using hi
          refine ⟨z6, z7, ?_⟩
          have e : lBody (lState s0 s1 s2 m (.val (.str [41])) z7) = .ret .non := by
            unfold lBody
            simp [lState, hi'] at fz ⊢
            simp [fz]
          rw [e]
          simp [hi']
      · by_cases hf : figC c = true
        · have e : lBody (lState s0 s1 s2 m (.val (.str [c])) z7) = .next (lState s0 s1 s2 { m with ms := m.ms ++ [(c, if m.ins = true then m.br else 0)] } (.val (.str [c])) z7) := by
            have a := app_mark s0 s1 s2 m c z7 (by omega)
            unfold lBody
            simp [-in_sign, lState, in_figs, hf, h40, h41] at a ⊢
            exact a
          rw [e]
          obtain ⟨z6', z7', ih⟩ := loop_mks s0 s1 s2 cs { m with ms := m.ms ++ [(c, if m.ins = true then m.br else 0)] } (.val (.str [c])) z7 (by simp; omega) h7
          exact ⟨z6', z7', by simp only [ih, if_neg h40, if_neg h41, if_pos hf, Option.bind_some]⟩
        · have hf' : figC c = false := by simpa using hf
          by_cases hb : c ∈ [32, 45, 46, 47]
          · have e : lBody (lState s0 s1 s2 m (.val (.str [c])) z7) = .next (lState s0 s1 s2 m (.val (.str [c])) z7) := by
              have inb : inD (.str [c]) (.str [32, 45, 46, 47]) = .ok (.bl true) := by rw [in_sign, decide_eq_true hb]
              unfold lBody
              simp [-in_sign, lState, in_figs, hf', h40, h41, inb]
            rw [e]
            obtain ⟨z6', z7', ih⟩ := loop_mks s0 s1 s2 cs m (.val (.str [c])) z7 (by omega) h7
            exact ⟨z6', z7', by simp only [ih, if_neg h40, if_neg h41, if_neg hf, if_neg (show ¬ c ∉ [32, 45, 46, 47] from fun z => z hb), Option.bind_some]⟩
          · refine ⟨z6, z7, ?_⟩
            have e : lBody (lState s0 s1 s2 m (.val (.str [c])) z7) = .ret .non := by
              have inb : inD (.str [c]) (.str [32, 45, 46, 47]) = .ok (.bl false) := by rw [in_sign, decide_eq_false hb]
              unfold lBody
              simp [-in_sign, lState, in_figs, hf', h40, h41, inb]
            rw [e]
            simp only [if_neg h40, if_neg h41, if_neg hf, if_pos (show c ∉ [32, 45, 46, 47] from hb), Option.bind_none]
end DL
namespace DL
/-! ## a trunk in brackets of its own (plain) -/
def whole (qs : List Pc) : List Nat := (qs.map (·.1)).flatten
theorem whole_cons (p : Pc) (qs : List Pc) : whole (p :: qs) = p.1 ++ whole qs := rfl
theorem whole_app (as bs : List Pc) : whole (as ++ bs) = whole as ++ whole bs := by unfold whole; simp
def brsOf (n : Nat) (qs : List Pc) : List Nat := (marksOf n qs).map (·.2)
theorem brs_len : ∀ (qs : List Pc) (n : Nat), (brsOf n qs).length = (whole qs).length
  | [], n => rfl
  | (d, own) :: qs, n => by
    have h1 := brs_len qs n
    have h2 := brs_len qs (n + 1)
    unfold brsOf at *
    cases own with
    | true => rw [marks_t, whole_cons]; simp at h2 ⊢; omega
    | false => rw [marks_f, whole_cons]; simp at h1 ⊢; omega
theorem brs_app (as bs : List Pc) (n : Nat) : brsOf n (as ++ bs) = brsOf n as ++ brsOf (n + owns as) bs := by
  unfold brsOf
  rw [marksOf_app, List.map_append]
theorem brs_piece (d : List Nat) (own : Bool) (qs : List Pc) (n : Nat) : brsOf n ((d, own) :: qs) = List.replicate d.length (if own = true then n + 1 else 0) ++ brsOf (if own = true then n + 1 else n) qs := by
  unfold brsOf
  cases own with
  | true => rw [marks_t, List.map_append]; congr 1; rw [List.map_map]; exact List.map_const' ..
  | false => rw [marks_f, List.map_append]; congr 1; rw [List.map_map]; exact List.map_const' ..
/-- a bracket's number -/
theorem brs_mem : ∀ (qs : List Pc) (n x : Nat), x ∈ brsOf n qs → x = 0 ∨ (n < x ∧ x ≤ n + owns qs)
  | [], n, x, h => by simp [brsOf, marksOf] at h
  | (d, own) :: qs, n, x, h => by
    rw [brs_piece] at h
    rcases List.mem_append.mp h with h | h
    · have := List.eq_of_mem_replicate h
      cases own with
      | true => simp [owns] at this ⊢; omega
      | false => simp at this; exact .inl this
    · have := brs_mem qs _ x h
      cases own with
      | true => simp [owns] at this ⊢; omega
      | false => simp [owns] at this ⊢; omega
/-- the law's word for: inner is one bracket's and nobody else's -/
def aloneB (inner beside : List Nat) : Bool := match inner with
  | [] => false
  | x :: _ => decide (0 < x) && (decide (inner = List.replicate inner.length x) && decide (x ∉ beside))
/-- the piece in which the place e lies -/
theorem piece_at : ∀ (qs : List Pc) (e : Nat), e < (whole qs).length → ∃ as d own bs, qs = as ++ (d, own) :: bs ∧ (whole as).length ≤ e ∧ e < (whole as).length + d.length
  | [], e, h => by simp [whole] at h
  | (d, own) :: qs, e, h => by
    rw [whole_cons, List.length_append] at h
    by_cases c : e < d.length
    · exact ⟨[], d, own, qs, rfl, by simp [whole], by simpa [whole] using c⟩
    · have h' : e - d.length < (whole qs).length := by simp only at h; omega
      obtain ⟨as, d', own', bs, e1, e2, e3⟩ := piece_at qs (e - d.length) h'
      refine ⟨(d, own) :: as, d', own', bs, by rw [e1]; rfl, ?_, ?_⟩
      · rw [whole_cons, List.length_append]; simp only; omega
      · rw [whole_cons, List.length_append]; simp only; omega
theorem rep_get (x : Nat) {n i : Nat} (h : i < n) : (List.replicate n x)[i]? = some x := by rw [List.getElem?_replicate]; simp [h]
theorem alone_iff {qs : List Pc} {e : Nat} {t : List Nat} (ht : t ≠ []) (hw : ((whole qs).drop e).take t.length = t) :
    aloneB (((brsOf 0 qs).drop e).take t.length) ((brsOf 0 qs).take e ++ (brsOf 0 qs).drop (e + t.length)) = true ↔ ∃ as bs, qs = as ++ (t, true) :: bs ∧ (whole as).length = e := by
  have tl : 0 < t.length := List.length_pos_iff.mpr ht
  have fit : e + t.length ≤ (whole qs).length := by
    have := congrArg List.length hw
    simp at this
    omega
  constructor
  · intro h
    obtain ⟨as, d, own, bs, eq, h1, h2⟩ := piece_at qs e (by omega)
    have la : (brsOf 0 as).length = (whole as).length := brs_len as 0
    have wl : (whole qs).length = (whole as).length + d.length + (whole bs).length := by rw [eq, whole_app, whole_cons]; simp; omega
    have eb : brsOf 0 qs = brsOf 0 as ++ (List.replicate d.length (if own = true then owns as + 1 else 0) ++ brsOf (if own = true then owns as + 1 else owns as) bs) := by
      rw [eq, brs_app, brs_piece]; simp
    generalize hn : (if own = true then owns as + 1 else 0) = n at eb
    have ge : ∀ i, (whole as).length ≤ i → i < (whole as).length + d.length → (brsOf 0 qs)[i]? = some n := fun i i1 i2 => by
      rw [eb, List.getElem?_append_right (by omega), List.getElem?_append_left (by simp; omega)]
      exact rep_get n (by omega)
    have inn : ∀ i, i < t.length → ((brsOf 0 qs).drop e |>.take t.length)[i]? = (brsOf 0 qs)[e + i]? := fun i hi => by
      rw [List.getElem?_take, if_pos hi, List.getElem?_drop]
    have il : ((brsOf 0 qs).drop e |>.take t.length).length = t.length := by
      have := brs_len qs 0
      simp; omega
    cases hi : ((brsOf 0 qs).drop e |>.take t.length) with
    | nil => rw [hi] at il; simp at il; omega
    | cons x r =>
      rw [hi] at h inn il
      simp only [aloneB, Bool.and_eq_true, decide_eq_true_eq] at h
      obtain ⟨p1, p2, p3⟩ := h
      have x0 : x = n := by
        have := inn 0 tl
        rw [Nat.add_zero, ge e h1 h2] at this
        simpa using this
      subst x0
      have own1 : own = true := by
        cases own with
        | true => rfl
        | false => simp at hn; omega
      subst own1
      have e1 : (whole as).length = e := by
        by_cases c : (whole as).length = e
        · exact c
        · have : (brsOf 0 qs)[e - 1]? = some x := ge (e - 1) (by omega) (by omega)
          have m : x ∈ (brsOf 0 qs).take e := by
            refine List.mem_of_getElem? (i := e - 1) ?_
            rw [List.getElem?_take, if_pos (by omega)]; exact this
          exact absurd (List.mem_append_left _ m) p3
      have dl : d.length = t.length := by
        rcases Nat.lt_trichotomy d.length t.length with c | c | c
        · have q := inn d.length c
          rw [p2, il, rep_get x c, show e + d.length = (whole as).length + d.length by omega] at q
          have : x ∈ brsOf (owns as + 1) bs := by
            refine List.mem_of_getElem? (i := 0) ?_
            rw [eb, List.getElem?_append_right (by omega), List.getElem?_append_right (by simp; omega)] at q
            simp [la] at q
            exact q.symm
          have := brs_mem bs _ x this
          simp at hn
          omega
        · exact c
        · have : (brsOf 0 qs)[e + t.length]? = some x := ge (e + t.length) (by omega) (by omega)
          have m : x ∈ (brsOf 0 qs).drop (e + t.length) := by
            refine List.mem_of_getElem? (i := 0) ?_
            rw [List.getElem?_drop, Nat.add_zero]; exact this
          exact absurd (List.mem_append_right _ m) p3
      have dt : d = t := by
        rw [eq, whole_app, whole_cons, ← e1, List.drop_left, ← dl, List.take_left] at hw
        exact hw
      exact ⟨as, bs, by rw [eq, dt], e1⟩
  · rintro ⟨as, bs, eq, e1⟩
    have la : (brsOf 0 as).length = (whole as).length := brs_len as 0
    have eb : brsOf 0 qs = brsOf 0 as ++ (List.replicate t.length (owns as + 1) ++ brsOf (owns as + 1) bs) := by
      rw [eq, brs_app, brs_piece]; simp
    have d1 : (brsOf 0 qs).drop e = List.replicate t.length (owns as + 1) ++ brsOf (owns as + 1) bs := by
      rw [eb, ← e1, ← la, List.drop_left]
    have t1 : (brsOf 0 qs).take e = brsOf 0 as := by rw [eb, ← e1, ← la, List.take_left]
    have d2 : (brsOf 0 qs).drop (e + t.length) = brsOf (owns as + 1) bs := by
      rw [← List.drop_drop, d1]
      have := List.drop_left (l₁ := List.replicate t.length (owns as + 1)) (l₂ := brsOf (owns as + 1) bs)
      rw [List.length_replicate] at this
      exact this
    have i1 : ((brsOf 0 qs).drop e).take t.length = List.replicate t.length (owns as + 1) := by
      rw [d1]
      have := List.take_left (l₁ := List.replicate t.length (owns as + 1)) (l₂ := brsOf (owns as + 1) bs)
      rw [List.length_replicate] at this
      exact this
    rw [i1, t1, d2]
    obtain ⟨k, hk⟩ : ∃ k, t.length = k + 1 := ⟨t.length - 1, by omega⟩
    rw [hk, List.replicate_succ]
    simp only [aloneB, Bool.and_eq_true, decide_eq_true_eq]
    refine ⟨by omega, by simp [List.replicate_succ], fun z => ?_⟩
    rcases List.mem_append.mp z with z | z
    · have := brs_mem as _ _ z; omega
    · have := brs_mem bs _ _ z; omega
/-! ### the program's own way -/
def woGo (skip : Nat) (t : List Nat) : Nat → List Pc → Option (List Nat)
  | _, [] => none
  | p, (d, own) :: r => if p = skip ∧ own = true ∧ d = t then some (whole r) else woGo skip t (p + d.length) r
def wo (qs : List Pc) (skip : Nat) (t : List Nat) : List Nat := (woGo skip t 0 qs).getD ((whole qs).drop skip)
theorem woGo_iff (skip : Nat) (t : List Nat) : ∀ (qs : List Pc) (p : Nat) (z : List Nat), (∀ q ∈ qs, q.1 ≠ []) → (woGo skip t p qs = some z ↔ ∃ as bs, qs = as ++ (t, true) :: bs ∧ p + (whole as).length = skip ∧ z = whole bs)
  | [], p, z, _ => by simp [woGo]
  | (d, own) :: r, p, z, h => by
    have ih := woGo_iff skip t r (p + d.length) z fun q hq => h q (List.mem_cons_of_mem _ hq)
    have dne : 0 < d.length := List.length_pos_iff.mpr (h _ List.mem_cons_self)
    unfold woGo
    by_cases c : p = skip ∧ own = true ∧ d = t
    · rw [if_pos c]
      obtain ⟨rfl, rfl, rfl⟩ := c
      constructor
      · intro e; cases e
        exact ⟨[], r, rfl, by simp [whole], rfl⟩
      · rintro ⟨as, bs, e, e2, rfl⟩
        cases as with
        | nil => simp at e; rw [e]
        | cons a as =>
          simp at e
          rw [whole_cons, ← e.1, List.length_append] at e2
          simp only at e2
          omega
    · rw [if_neg c, ih]
      constructor
      · rintro ⟨as, bs, e, e2, e3⟩
        exact ⟨(d, own) :: as, bs, by rw [e]; rfl, by rw [whole_cons, List.length_append]; simp only; omega, e3⟩
      · rintro ⟨as, bs, e, e2, e3⟩
        cases as with
        | nil =>
          simp at e
          exact absurd ⟨by simpa [whole] using e2, e.1.2, e.1.1⟩ c
        | cons a as =>
          simp at e
          refine ⟨as, bs, e.2, ?_, e3⟩
          rw [whole_cons, ← e.1, List.length_append] at e2
          simp only at e2
          omega
/-- what the program makes of a trunk, told by the law's word -/
theorem wo_eq {qs : List Pc} (h : ∀ q ∈ qs, q.1 ≠ []) (skip : Nat) (t : List Nat) : wo qs skip t = if t ≠ [] ∧ ((whole qs).drop skip).take t.length = t ∧ aloneB (((brsOf 0 qs).drop skip).take t.length) ((brsOf 0 qs).take skip ++ (brsOf 0 qs).drop (skip + t.length)) = true then (whole qs).drop (skip + t.length) else (whole qs).drop skip := by
  unfold wo
  cases hg : woGo skip t 0 qs with
  | some z =>
    obtain ⟨as, bs, e1, e2, e3⟩ := (woGo_iff skip t qs 0 z h).mp hg
    have e2' : (whole as).length = skip := by omega
    have ht : t ≠ [] := h (t, true) (by rw [e1]; simp)
    have hw : ((whole qs).drop skip).take t.length = t := by rw [e1, whole_app, whole_cons, ← e2', List.drop_left, List.take_left]
    rw [if_pos ⟨ht, hw, (alone_iff ht hw).mpr ⟨as, bs, e1, e2'⟩⟩, e3]
    simp only [Option.getD_some]
    rw [e1, whole_app, whole_cons, ← e2', ← List.drop_drop, List.drop_left, List.drop_left]
  | none =>
    rw [if_neg]
    · rfl
    · rintro ⟨ht, hw, ha⟩
      obtain ⟨as, bs, e1, e2⟩ := (alone_iff ht hw).mp ha
      have := (woGo_iff skip t qs 0 (whole bs) h).mpr ⟨as, bs, e1, by omega, rfl⟩
      rw [hg] at this; cases this
end DL
namespace DL
/-! ## the tables' defs on data -/
def figB (c : Nat) : Bool := decide (c ∈ [48, 49, 50, 51, 52, 53, 54, 55, 56, 57])
def smallB (c : Nat) : Bool := decide (c ∈ [97, 98, 99, 100, 101, 102, 103, 104, 105, 106, 107, 108, 109, 110, 111, 112, 113, 114, 115, 116, 117, 118, 119, 120, 121, 122])
structure Row where
  kind : List Nat
  begin : List Nat
  size : Int
  groups : List Int
deriving DecidableEq
structure Land where
  code : List Nat
  far : List Nat
  trunk : List Nat
  rows : List Row
deriving DecidableEq
instance : Dat Row := ⟨fun r => .tup [.str r.kind, .str r.begin, .int r.size, .tup (r.groups.map .int)], 2, fun x y => by
  have := eqvL_map x.groups y.groups
  cases x; cases y; simp at this ⊢; simp [Dat.d] at this; simp [this], fun x => by
  have := rks_map x.groups
  simp [Dat.d, Dat.r] at this ⊢; omega⟩
instance : Dat Land := ⟨fun r => .tup [.str r.code, .str r.far, .str r.trunk, .tup (r.rows.map Dat.d)], 4, fun x y => by
  have := eqvL_map x.rows y.rows
  cases x; cases y; simp at this ⊢; simp [this], fun x => by
  have := rks_map x.rows
  simp [Dat.r] at this ⊢; omega⟩
theorem row_d (r : Row) : Dat.d r = .tup [.str r.kind, .str r.begin, .int r.size, .tup (r.groups.map .int)] := rfl
theorem land_d (r : Land) : Dat.d r = .tup [.str r.code, .str r.far, .str r.trunk, .tup (r.rows.map Dat.d)] := rfl
def bookD (b : List Land) : D := .tup (b.map Dat.d)
def figs (s : List Nat) (lo hi : Int) : Bool := decide (lo ≤ s.length) && (decide ((s.length : Int) ≤ hi) && s.all figB)
def kindB (s : List Nat) : Bool := decide (1 ≤ s.length) && (decide (s.length ≤ 8) && s.all smallB)
def cntB (i lo hi : Int) : Bool := decide (lo ≤ i) && decide (i ≤ hi)
def rowB (r : Row) : Bool := kindB r.kind && (figs r.begin 0 4 && (cntB r.size (max 3 (r.begin.length + 1)) 12 && (decide (r.groups ≠ []) && ((r.groups.all fun g => cntB g 1 12) && decide (r.groups.sum = r.size)))))
def landB (l : Land) : Bool := figs l.code 1 3 && (decide (l.code[0]? ≠ some 48) && (figs l.far 1 4 && (figs l.trunk 0 2 && ((decide (1 ≤ l.rows.length) && decide (l.rows.length ≤ 8)) && (l.rows.all rowB && decide (l.rows.map fun r => (r.begin, r.size)).Nodup)))))
theorem is_count_int (i lo hi : Int) : den_is_count [.int i, .int lo, .int hi] = .ok (.bl (cntB i lo hi)) := by
  simp [den_is_count, runB, m_is_count, startS, cntB]
  by_cases h : lo ≤ i <;> simp [h]
theorem is_figures_str (s : List Nat) (lo hi : Int) : den_is_figures [.str s, .int lo, .int hi] = .ok (.bl (figs s lo hi)) := by
  simp [den_is_figures, runB, m_is_figures, startS, figs]
  by_cases h : lo ≤ s.length <;> simp [h]
  by_cases h' : (s.length : Int) ≤ hi <;> simp [h']
  rw [lcG_all (fun c => .str [c]) (fun c => .bl (figB c)) s fun x hx => ⟨_, bindT_nm, by simp [figB]⟩]
  simp
theorem is_kind_str (s : List Nat) : den_is_kind [.str s] = .ok (.bl (kindB s)) := by
  simp [den_is_kind, runB, m_is_kind, startS, kindB]
  by_cases h : 1 ≤ s.length
  · have h2 : (1 : Int) ≤ s.length := by omega
    simp [h, h2]
    by_cases h' : s.length ≤ 8
    · have h3 : (s.length : Int) ≤ 8 := by omega
      simp [h', h3]
      rw [lcG_all (fun c => .str [c]) (fun c => .bl (smallB c)) s fun x hx => ⟨_, bindT_nm, by simp [smallB]⟩]
      simp
    · have h3 : ¬ (s.length : Int) ≤ 8 := by omega
      simp [h', h3]
  · have h2 : ¬ (1 : Int) ≤ s.length := by omega
    simp [h, h2]
theorem max_if (a b : Int) : (if b > a then b else a) = max a b := by
  by_cases h : b > a
  · rw [if_pos h]; omega
  · rw [if_neg h]; omega
theorem is_row_d (r : Row) : den_is_row [Dat.d r] = .ok (.bl (rowB r)) := by
  simp [den_is_row, runB, m_is_row, startS, rowB, row_d, is_kind_str, is_figures_str, is_count_int]
  cases h1 : kindB r.kind
  · simp
  cases h2 : figs r.begin 0 4
  · simp
  have hl : r.begin.length ≤ 4 := by
    unfold figs at h2
    simp at h2
    omega
  simp [is_count_int, max_if]
  cases h3 : cntB r.size (max 3 (r.begin.length + 1)) 12
  · simp
  have hg := rks_map r.groups
  simp [Dat.d, Dat.r] at hg
  simp
  rw [neD_of (by simp; omega) (by simp)]
  cases h4 : r.groups.isEmpty
  · have h4' : r.groups ≠ [] := fun e => by rw [e] at h4; cases h4
    simp [h4']
    rw [lcG_all .int (fun g => .bl (cntB g 1 12)) r.groups fun x hx => ⟨_, bindT_nm, by simp [is_count_int]⟩]
    simp only [Res.bind_ok, all_map]
    cases h5 : r.groups.all fun g => cntB g 1 12 <;> simp
  · simp at h4
    simp [h4]
theorem cut13 {a b c d : D} : cutL [a, b, c, d] (some 1) (some 3) = [b, c] := by simp [cutL, HT.sIx]
theorem tupsKs_rows (l : List Row) : tupsKs (l.map fun r => .tup [.str r.begin, .int r.size]) = some (l.map fun r => [.inr ⟨r.begin.toArray⟩, .inl r.size]) := by
  induction l with
  | nil => rfl
  | cons r l ih => simp [tupsKs, tupKs, kDs, kD, ih]
theorem nodup_iff_inj {α β γ : Type} {f : α → β} {g : α → γ} (h : ∀ x y, f x = f y ↔ g x = g y) (l : List α) : (l.map f).Nodup ↔ (l.map g).Nodup := by
  unfold List.Nodup
  rw [List.pairwise_map, List.pairwise_map]
  exact List.Pairwise.iff fun {a b} => not_congr (h a b)
theorem nub_len_iff {α : Type} [DecidableEq α] (l : List α) : (nub l).length = l.length ↔ l.Nodup := ⟨nub_eq, fun h => by rw [nub_nodup h]⟩
theorem is_land_d (l : Land) : den_is_land [Dat.d l] = .ok (.bl (landB l)) := by
  simp [den_is_land, runB, m_is_land, startS, landB, land_d, is_figures_str]
  cases h1 : figs l.code 1 3
  · simp
  cases hc : l.code with
  | nil => rw [hc] at h1; cases h1
  | cons c cs =>
    simp
    by_cases h2 : c = 48
    · simp [h2]
    simp [h2, is_figures_str]
    cases h3 : figs l.far 1 4
    · simp
    cases h4 : figs l.trunk 0 2
    · simp
    simp
    by_cases h5 : 1 ≤ l.rows.length
    · have h5' : (1 : Int) ≤ l.rows.length := by omega
      simp [h5, h5']
      by_cases h6 : l.rows.length ≤ 8
      · have h6' : (l.rows.length : Int) ≤ 8 := by omega
        have h6'' : ¬ (8 : Int) < l.rows.length := by omega
        simp [h6, h6', h6'']
        rw [lcG_all Dat.d (fun r => .bl (rowB r)) l.rows fun x hx => ⟨_, bindT_nm, by simp [is_row_d]⟩]
        simp only [Res.bind_ok, all_map]
        cases h7 : l.rows.all rowB
        · simp
        simp [h6'']
        rw [lcG_all Dat.d (fun r => .tup [.str r.begin, .int r.size]) l.rows fun x hx => ⟨_, bindT_nm, by simp [row_d, cut13]⟩]
        simp [lenSetF, tupsKs_rows]
        rw [if_pos (by omega)]
        simp
        have e : (nub (l.rows.map fun r => ([.inr ⟨r.begin.toArray⟩, .inl r.size] : List L2.Key))).length = l.rows.length ↔ (l.rows.map fun r => (r.begin, r.size)).Nodup := by
          have := nub_len_iff (l.rows.map fun r => ([.inr ⟨r.begin.toArray⟩, .inl r.size] : List L2.Key))
          rw [List.length_map] at this
          rw [this]
          refine nodup_iff_inj (fun x y => ?_) _
          simp
        rw [← e]
        omega
      · have h6' : ¬ (l.rows.length : Int) ≤ 8 := by omega
        have h6'' : (8 : Int) < l.rows.length := by omega
        simp [h6, h6', h6'']
    · have h5' : ¬ (1 : Int) ≤ l.rows.length := by omega
      simp [h5, h5']

def stepB (a b : List Nat) : Bool := decide (a < b) && !a.isPrefixOf b
def bookB (b : List Land) : Bool := (decide (1 ≤ b.length) && decide (b.length ≤ 6)) && (b.all landB && ((b.map Land.code).dropLast.zip ((b.map Land.code).drop 1)).all fun p => stepB p.1 p.2)
theorem is_book_d (b : List Land) : den_is_book [bookD b] = .ok (.bl (bookB b)) := by
  simp [den_is_book, runB, m_is_book, startS, bookB, bookD]
  by_cases h1 : 1 ≤ b.length
  · have h1' : (1 : Int) ≤ b.length := by omega
    by_cases h2 : b.length ≤ 6
    · have h2' : (b.length : Int) ≤ 6 := by omega
      have h2'' : ¬ (6 : Int) < b.length := by omega
      simp [h1, h1', h2, h2', h2'']
      rw [lcG_all Dat.d (fun r => .bl (landB r)) b fun x hx => ⟨_, bindT_nm, by simp [is_land_d]⟩]
      simp only [Res.bind_ok, all_map]
      cases h3 : b.all landB
      · simp
      simp
      rw [lcG_all Dat.d (fun r => .str r.code) b fun x hx => ⟨_, bindT_nm, by simp [land_d]⟩]
      have e : ∀ l : List (List Nat), (l.map fun c => D.str c) = l.map Dat.d := fun _ => rfl
      have e1 : (b.map fun r => D.str r.code) = (b.map Land.code).map Dat.d := by simp [Dat.d]
      generalize b.map Land.code = cs at e1 ⊢
      have c1 : cutL (cs.map Dat.d) none (some (-1)) = cs.dropLast.map (Dat.d (α := List Nat)) := by rw [cut_map, cut_to_last]
      have c2 : cutL (cs.map Dat.d) (some 1) none = (cs.drop 1).map (Dat.d (α := List Nat)) := by rw [cut_map, show (1 : Int) = ((1 : Nat) : Int) from rfl, cut_from]
      simp [e1, c1, c2]
      rw [← List.map_dropLast, ← List.map_tail, zipD_map]
      rw [lcG_all (fun p : List Nat × List Nat => .tup [Dat.d p.1, Dat.d p.2]) (fun p => .bl (stepB p.1 p.2)) _ fun x hx => ⟨_, by simp; rfl, by
        simp [Dat.d, stepB]
        by_cases h : x.1 < x.2 <;> simp [h]⟩]
      simp
    · have h2' : ¬ (b.length : Int) ≤ 6 := by omega
      simp [h1, h1', h2, h2']
  · have h1' : ¬ (1 : Int) ≤ b.length := by omega
    simp [h1, h1']
theorem need_book_ok {b : List Land} (h : bookB b = true) : den_need_book [bookD b] = .ok .non := by
  simp [den_need_book, runB, m_need_book, startS, is_book_d, h]
end DL
namespace DL
/-! ## numbers, moves -/
def landOf (b : List Land) (code : List Nat) : Option Land := b.find? fun l => decide (l.code = code)
theorem find_filter {α : Type} (p : α → Bool) : ∀ l : List α, (l.filter p).head? = l.find? p
  | [] => rfl
  | x :: l => by
    by_cases h : p x = true
    · rw [List.filter_cons_of_pos h, List.find?_cons_of_pos h]; rfl
    · rw [List.filter_cons_of_neg h, List.find?_cons_of_neg h, find_filter p l]
theorem land_of_d (b : List Land) (code : List Nat) : den_land_of [bookD b, .str code] = .ok (optD (landOf b code)) := by
  simp [den_land_of, runB, m_land_of, startS, bookD]
  rw [lcG_map Dat.d (fun l => decide (l.code = code)) Dat.d b fun x hx => ⟨_, bindT_nm, by simp [land_d], by simp⟩]
  simp
  rw [neD_nil]
  have := find_filter (fun l : Land => decide (l.code = code)) b
  unfold landOf
  rw [← this]
  cases b.filter fun l => decide (l.code = code) with
  | nil => simp
  | cons x l => simp
def fitsB (digits : List Nat) (r : Row) : Bool := decide ((digits.length : Int) = r.size) && r.begin.isPrefixOf digits
def better (r : Row) : Option Row → Bool
  | none => true
  | some q => decide (q.begin.length < r.begin.length)
def rowStep (digits : List Nat) (best : Option Row) (r : Row) : Option Row := if fitsB digits r && better r best then some r else best
def rowOf (rows : List Row) (digits : List Nat) : Option Row := rows.foldl (rowStep digits) none
theorem forS_fold {g : Tg} {body : EnvS → Out} {α β γ : Type} (f : α → D) (st : β → γ → EnvS) (step : β → α → β) : ∀ (l : List α) (s : β) (z : γ), (∀ x ∈ l, ∀ (s : β) (z : γ), ∃ ρ1 z', bindT g (f x) (st s z) = some ρ1 ∧ body ρ1 = .next (st (step s x) z')) → ∃ z', forS g body (l.map f) (st s z) = .next (st (l.foldl step s) z')
  | [], s, z, _ => ⟨z, rfl⟩
  | x :: l, s, z, h => by
    obtain ⟨ρ1, z1, h1, h2⟩ := h x List.mem_cons_self s z
    obtain ⟨z2, h3⟩ := forS_fold f st step l (step s x) z1 fun y hy => h y (List.mem_cons_of_mem _ hy)
    exact ⟨z2, by rw [List.map_cons, forS, h1]; simp only [h2]; exact h3⟩
theorem row_of_d (l : Land) (digits : List Nat) : den_row_of [Dat.d l, .str digits] = .ok (optD (rowOf l.rows digits)) := by
  have key := forS_fold (g := .nm 3) (body := sIf [] (bAnd (mB (m2 eqD (mCall lenF (aCons (mVar 1) (aNil))) (m2 ixD (mVar 3) (mC (.int 2))))) (mB (mS1 startsS (mVar 1) (m2 ixD (mVar 3) (mC (.int 1)))))) (sIf [] (bOr (mB (m2 isD (mVar 2) (mC .non))) (mB (m2 gtD (mCall lenF (aCons (m2 ixD (mVar 3) (mC (.int 1))) (aNil))) (mCall lenF (aCons (m2 ixD (mVar 2) (mC (.int 1))) (aNil)))))) (sAsg [] 2 (mVar 3)) (sNil)) (sNil))
    Dat.d (fun best (z : Sl) => [.val (Dat.d l), .val (.str digits), .val (optD best), z]) (rowStep digits) l.rows none .no (fun r hr best z => by
      refine ⟨_, .val (Dat.d r), bindT_nm, ?_⟩
      simp [row_d, rowStep, fitsB]
      by_cases h1 : (digits.length : Int) = r.size
      · simp [h1]
        by_cases h2 : r.begin <+: digits
        · cases best with
          | none => simp [better, row_d, h2]
          | some q =>
            simp [better, row_d, h2]
            by_cases h3 : q.begin.length < r.begin.length
            · simp [h3, row_d]
            · simp [h3, row_d]
        · simp [h2]
      · simp [h1])
  obtain ⟨z', hz⟩ := key
  simp [den_row_of, runB, m_row_of, startS, land_d]
  simp [land_d] at hz
  rw [hz]
  simp [rowOf]
abbrev Num := List Nat × List Nat
def numB (b : List Land) (n : Num) : Bool := match landOf b n.1 with
  | none => false
  | some l => figs n.2 3 12 && (rowOf l.rows n.2).isSome
theorem num_d (n : Num) : Dat.d n = .tup [.str n.1, .str n.2] := rfl
theorem has_number_d (b : List Land) (n : Num) : den_has_number [bookD b, Dat.d n] = .ok (.bl (numB b n)) := by
  simp [den_has_number, runB, m_has_number, startS, num_d, land_of_d, numB]
  cases h1 : landOf b n.1 with
  | none => simp
  | some l =>
    simp [land_d, is_figures_str]
    rw [← land_d]
    cases h2 : figs n.2 3 12
    · simp
    simp [row_of_d]
    cases h3 : rowOf l.rows n.2 with
    | none => simp
    | some r => simp [row_d]
end DL
namespace DL
/-! ## the law's own draws -/
abbrev M1 : Int := 340282366920938463463374607431768211507
abbrev M2 : Int := 340282366920938463463374607431768211297
abbrev M3 : Int := 18446744073709551557
theorem lg {n k : Nat} (h : n < 2 ^ k) (hk : 0 < k) : n.log2 < k := by
  by_cases e : n = 0
  · subst e; simpa using hk
  · exact (Nat.log2_lt e).mpr h
theorem cmul_right {i j : Int} (h : -(2 ^ 64) < j ∧ j < 2 ^ 64) : cmulB i j = true := by
  unfold cmulB
  rw [Bool.or_eq_true]
  exact .inl (decide_eq_true (.inr h))
theorem cmul_wide {i j : Int} (hi : i.natAbs < 2 ^ 250) (hj : j.natAbs < 2 ^ 250) : cmulB i j = true := by
  unfold cmulB
  rw [Bool.or_eq_true]
  refine .inr (decide_eq_true ?_)
  have h1 := lg hi (by decide)
  have h2 := lg hj (by decide)
  show i.natAbs.log2 + j.natAbs.log2 < 1000000
  omega
theorem fdiv_ok {i j : Int} (h : 0 < j) (h2 : j.natAbs < 2 ^ 100) : fdivD (.int i) (.int j) = .ok (.int (i / j)) := by
  have := lg h2 (by decide)
  simp [h]
  omega
theorem mod_ok {i j : Int} (h : 0 < j) : modD (.int i) (.int j) = .ok (.int (i % j)) := by simp [h]
theorem mod_bd (i : Int) {j : Int} (h : 0 < j) : 0 ≤ i % j ∧ i % j < j := ⟨Int.emod_nonneg _ (by omega), Int.emod_lt_of_pos _ h⟩
def InD (r : Int) : Prop := 0 ≤ r ∧ r < 340282366920938463463374607431768211507
theorem drawn_ok (c k : Int) : ∃ r, den__law_drawn [.int c, .int k] = .ok (.int r) ∧ InD r := by
  have ha : 0 ≤ (c * 6364136223846793005 + (k + 1) * 1442695040888963407) % 340282366920938463463374607431768211507 ∧ (c * 6364136223846793005 + (k + 1) * 1442695040888963407) % 340282366920938463463374607431768211507 < 340282366920938463463374607431768211507 := mod_bd _ (by decide)
  generalize hA : (c * 6364136223846793005 + (k + 1) * 1442695040888963407) % 340282366920938463463374607431768211507 = a at ha
  have hb : 0 ≤ a * a % 340282366920938463463374607431768211297 ∧ a * a % 340282366920938463463374607431768211297 < 340282366920938463463374607431768211297 := mod_bd _ (by decide)
  generalize hB : a * a % 340282366920938463463374607431768211297 = b at hb
  have hm : 0 ≤ b % 18446744073709551557 ∧ b % 18446744073709551557 < 18446744073709551557 := mod_bd b (by decide)
  have hd : 0 ≤ b / 18446744073709551557 ∧ b / 18446744073709551557 ≤ b := ⟨Int.ediv_nonneg hb.1 (by decide), Int.ediv_le_self _ hb.1⟩
  have p1 : cmulB c 6364136223846793005 = true := cmul_right (by decide)
  have p2 : cmulB (k + 1) 1442695040888963407 = true := cmul_right (by decide)
  have p3 : cmulB a a = true := cmul_wide (by omega) (by omega)
  have f : fdivD (.int b) (.int 18446744073709551557) = .ok (.int (b / 18446744073709551557)) := fdiv_ok (by decide) (by decide)
  generalize hX : b % 18446744073709551557 = x at hm
  generalize b / 18446744073709551557 = y at hd f
  have p4 : cmulB (x + 1) (y + 1) = true := cmul_wide (by omega) (by omega)
  have p5 : cmulB ((x + 1) * (y + 1)) b = true := by
    refine cmul_wide ?_ (by omega)
    rw [Int.natAbs_mul]
    have q1 : (x + 1).natAbs < 2 ^ 65 := by omega
    have q2 : (y + 1).natAbs < 2 ^ 129 := by omega
    calc (x + 1).natAbs * (y + 1).natAbs ≤ 2 ^ 65 * 2 ^ 129 := Nat.mul_le_mul (Nat.le_of_lt q1) (Nat.le_of_lt q2)
      _ < 2 ^ 250 := by decide
  refine ⟨(x + 1) * (y + 1) * b % 340282366920938463463374607431768211507, ?_, mod_bd _ (by decide)⟩
  simp [den__law_drawn, runB, m__law_drawn, startS, p1, p2, hA, p3, hB, -fdiv_int, f, hX, p4, p5]
noncomputable def drawn (c k : Int) : Int := Classical.choose (drawn_ok c k)
theorem drawn_spec (c k : Int) : den__law_drawn [.int c, .int k] = .ok (.int (drawn c k)) ∧ InD (drawn c k) := Classical.choose_spec (drawn_ok c k)
theorem drawn_eq (c k : Int) : den__law_drawn [.int c, .int k] = .ok (.int (drawn c k)) := (drawn_spec c k).1
theorem drawn_in (c k : Int) : InD (drawn c k) := (drawn_spec c k).2
theorem InD.lo {r : Int} (h : InD r) : 0 ≤ r := h.1
theorem InD.hi {r : Int} (h : InD r) : r < 340282366920938463463374607431768211507 := h.2
theorem drawn_lo (c k : Int) : 0 ≤ drawn c k := (drawn_in c k).lo
theorem cell_ok (ns : List Int) (k : Int) (hl : ns.length ≤ 63) : ∃ c, den__law_cell [.scr ns, .int k] = .ok (.int c) := by
  have e0 : eqD (.scr ns) (.lst []) = .ok (.bl ns.isEmpty) := by rw [eqD_of (by simp) (by simp)]; simp
  have p1 : cmulB k 7919 = true := cmul_right (by decide)
  by_cases h : ns = []
  · subst h
    have e0 : eqD (.scr []) (.lst []) = .ok (.bl true) := e0
    simp [den__law_cell, runB, m__law_cell, startS, e0, p1]
  · have hp : 0 < ns.length := List.length_pos_iff.mpr h
    have e0 : eqD (.scr ns) (.lst []) = .ok (.bl false) := by rw [e0]; simp [h]
    have hz : (0 : Int) < (ns.length : Int) := by omega
    have hl' : (ns.length : Int) ≤ 63 := by omega
    have len : lenF [.scr ns] = .ok (.int (ns.length : Int)) := rfl
    obtain ⟨c, hc⟩ : ∃ c, ixD (.scr ns) (.int (k % (ns.length : Int))) = .ok (.int c) := ⟨_, ix_scr (atI_pos ns (mod_bd k hz).1 (mod_bd k hz).2)⟩
    generalize (ns.length : Int) = L at hz hl' len hc
    have f : fdivD (.int k) (.int L) = .ok (.int (k / L)) := fdiv_ok hz (by omega)
    have p2 : cmulB (k / L) 104729 = true := cmul_right (by decide)
    simp [den__law_cell, runB, m__law_cell, startS, e0, -len_scr, len, mod_ok hz, hc, -fdiv_int, f, p2]
theorem pickD {α : Type} (f : α → D) (l : List α) {i : Int} (h0 : 0 ≤ i) (h : i < l.length) : ∃ x ∈ l, ixD (.lst (l.map f)) (.int i) = .ok (f x) := by
  have hl : i < (l.map f).length := by rw [List.length_map]; exact h
  refine ⟨l[i.toNat]'(by omega), List.getElem_mem _, ?_⟩
  rw [ix_lst (atI_pos _ h0 hl)]
  simp
theorem sApp_flat {ρ : EnvS} {i : Nat} {me : EnvD → Res D} {ds : List D} {d : D} (h : ρ[i]? = some (.own ds)) (e : me (vis ρ) = .ok d) (f : isFlat d = true) (l : ds.length < 1000000) : sApp [] i me ρ = .next (ρ.set i (.own (ds ++ [d]))) := by
  unfold sApp
  rw [h]
  simp only [freeze_nil, e, f, if_true, h]
  exact if_pos l
theorem sApp_any {vs : List Nat} {ρ ρ' : EnvS} {i : Nat} {me : EnvD → Res D} {ds : List D} {d : D} (h : ρ[i]? = some (.own ds)) (hf : freeze vs ρ = ρ') (e : me (vis ρ') = .ok d) (f : isFlat d = false) (h' : ρ'[i]? = some (.own ds)) (l : ds.length < 1000000) : sApp vs i me ρ = .next (ρ'.set i (.own (ds ++ [d]))) := by
  unfold sApp
  rw [h, hf]
  simp only [e, f, h', Bool.false_eq_true, if_false]
  exact if_pos l
theorem while_row (m : Int) (A B : Sl) : ∀ (n : Nat) (left : Int) (gs : List Int) (z : Sl), 0 ≤ left → left < n → gs.length + left < 1000 → ∃ hs z', (∀ h ∈ hs, 1 ≤ h ∧ h ≤ 4) ∧ hs.sum = left ∧
    whileS [] (mB (m2 gtD (mVar 3) (mC (.int 0)))) (sSeq (sAsg [] 5 (m2 addD (mC (.int 1)) (m2 modD (mCall den__law_drawn (aCons (mVar 0) (aCons (mVar 3) (aNil)))) (mCall minF (aCons (mVar 3) (aCons (mC (.int 4)) (aNil)))))))
      (sSeq (sApp [] 4 (mVar 5))
      (sAsg [] 3 (m2 subD (mVar 3) (mVar 5))))) n [.val (.int m), A, B, .val (.int left), .own (gs.map .int), z] = .next [.val (.int m), A, B, .val (.int 0), .own ((gs ++ hs).map .int), z']
  | 0, left, gs, z, h0, h1, _ => by omega
  | n + 1, left, gs, z, h0, h1, h2 => by
    unfold whileS
    by_cases e : left = 0
    · subst e
      refine ⟨[], z, by simp, rfl, ?_⟩
      simp
    · have hp : 0 < left := by omega
      have hm : 0 < (if 4 < left then 4 else left) := by split <;> omega
      have hm2 : (if 4 < left then 4 else left) ≤ left ∧ (if 4 < left then 4 else left) ≤ 4 := by split <;> omega
      generalize hM : (if 4 < left then 4 else left) = M at hm hm2
      have hd := mod_bd (drawn m left) hm
      generalize hO : drawn m left % M = o at hd
      obtain ⟨hs, z', k1, k2, k3⟩ := while_row m A B n (left - (1 + o)) (gs ++ [1 + o]) (.val (.int (1 + o))) (by omega) (by omega) (by simp; omega)
      refine ⟨(1 + o) :: hs, z', fun h hh => ?_, by rw [List.sum_cons, k2]; omega, ?_⟩
      · rcases List.mem_cons.mp hh with rfl | hh
        · omega
        · exact k1 h hh
      · have ap : sApp [] 4 (mVar 5) [.val (.int m), A, B, .val (.int left), .own (gs.map .int), .val (.int (1 + o))] = .next [.val (.int m), A, B, .val (.int left), .own ((gs ++ [1 + o]).map .int), .val (.int (1 + o))] := by
          rw [sApp_flat (ds := gs.map .int) (d := .int (1 + o)) rfl (by simp) rfl (by simp; omega)]
          simp
        simp [hp, drawn_eq, hM, hm, hO, ap]
        simp at k3
        exact k3
def rowLike (r : Row) : Bool := rowB r && decide (r.size ≤ 12)
theorem one_row_ok (m : Int) : ∃ r : Row, den__law_one_row [.int m] = .ok (Dat.d r) ∧ rowB r = true := by
  obtain ⟨bg, hbg, e1⟩ := pickD D.str [[], [49], [50], [49, 50], [55], [55, 48], [48], [48, 48], [49, 50, 51], [57]] (mod_bd m (j := 10) (by decide)).1 (mod_bd m (j := 10) (by decide)).2
  obtain ⟨q, hq, e2⟩ := pickD D.int [2, 3, 5] (mod_bd (m / 64) (j := 3) (by decide)).1 (mod_bd (m / 64) (j := 3) (by decide)).2
  obtain ⟨kd, hkd, e3⟩ := pickD D.str [[104, 111, 109, 101], [99, 101, 108, 108], [102, 114, 101, 101]] (mod_bd (m / 256) (j := 3) (by decide)).1 (mod_bd (m / 256) (j := 3) (by decide)).2
  have hb : bg.length ≤ 3 ∧ bg.all figB = true := by
    have : ([[], [49], [50], [49, 50], [55], [55, 48], [48], [48, 48], [49, 50, 51], [57]].all fun s => decide (s.length ≤ 3) && s.all figB) = true := by decide
    have := List.all_eq_true.mp this bg hbg
    simpa using this
  have hk : kindB kd = true := by
    have : ([[104, 111, 109, 101], [99, 101, 108, 108], [102, 114, 101, 101]].all kindB) = true := by decide
    exact List.all_eq_true.mp this kd hkd
  have hq2 : 2 ≤ q ∧ q ≤ 5 := by
    simp at hq; omega
  have hq3 := mod_bd (m / 16) (j := q) (by omega)
  generalize hR : m / 16 % q = r at hq3
  generalize hS : max 3 ((bg.length : Int) + 1) + r = size
  have hs : 3 ≤ size ∧ size ≤ 8 ∧ (bg.length : Int) + 1 ≤ size := by omega
  obtain ⟨hs', z', k1, k2, k3⟩ := while_row m (.val (.str bg)) (.val (.int size)) 1000 size [] .no (by omega) (by omega) (by simp; omega)
  have f1 : fdivD (.int m) (.int 16) = .ok (.int (m / 16)) := fdiv_ok (by decide) (by decide)
  have f2 : fdivD (.int m) (.int 64) = .ok (.int (m / 64)) := fdiv_ok (by decide) (by decide)
  have f3 : fdivD (.int m) (.int 256) = .ok (.int (m / 256)) := fdiv_ok (by decide) (by decide)
  have fz : freeze [4] [.val (.int m), .val (.str bg), .val (.int size), .val (.int 0), .own (([] ++ hs').map .int), z'] = [.val (.int m), .val (.str bg), .val (.int size), .val (.int 0), .val (.lst (hs'.map .int)), z'] := by
    rw [freeze_own rfl]; simp
  have par : sParV [] 3 4 (mVar 2) (fLst (aNil)) [.val (.int m), .val (.str bg), .val (.int size), .no, .no, .no] = .next [.val (.int m), .val (.str bg), .val (.int size), .val (.int size), .own [], .no] := by
    simp [sParV]
  refine ⟨⟨kd, bg, size, hs'⟩, ?_, ?_⟩
  · simp at e1 e2 e3 k3 fz
    simp [den__law_one_row, runB, m__law_one_row, startS, -fdiv_int, f1, f2, f3, e1, e2, e3, show (0 : Int) < q by omega, hR]
    rw [max_if, hS, par]
    simp
    rw [k3]
    simp [fz, -fdiv_int, f3, e3, row_d]
  · have c1 : figs bg 0 4 = true := by unfold figs; simp [hb.2]; omega
    have c2 : cntB size (max 3 ((bg.length : Int) + 1)) 12 = true := by unfold cntB; simp; omega
    have c3 : hs' ≠ [] := fun e => by rw [e] at k2; simp at k2; omega
    have c4 : (hs'.all fun g => cntB g 1 12) = true := List.all_eq_true.mpr fun g hg => by
      have := k1 g hg
      unfold cntB; simp; omega
    simp [rowB, hk, c1, c2, c3, k2]
    simpa using c4
/-! a land -/
theorem rowB_size {r : Row} (h : rowB r = true) : r.size ≤ 12 ∧ (r.begin.length : Int) + 1 ≤ r.size ∧ 3 ≤ r.size ∧ r.begin.length ≤ 4 ∧ r.begin.all figB = true := by
  unfold rowB at h
  simp only [Bool.and_eq_true] at h
  obtain ⟨_, h1, h2, _⟩ := h
  unfold figs at h1
  unfold cntB at h2
  simp only [Bool.and_eq_true, decide_eq_true_eq] at h1 h2
  obtain ⟨_, h3, h4⟩ := h1
  obtain ⟨h5, h6⟩ := h2
  exact ⟨h6, by omega, by omega, by omega, h4⟩
def rkey (r : Row) : List Nat × Int := (r.begin, r.size)
theorem flat_row (r : Row) : isFlat (Dat.d r) = false := rfl
theorem flat_land (r : Land) : isFlat (Dat.d r) = false := rfl
theorem flat_num (r : Num) : isFlat (Dat.d r) = false := rfl
theorem sl_row (r : Row) : slD (Dat.d r) (some 1) (some 3) = .ok (.tup [.str r.begin, .int r.size]) := by simp [row_d, cut13]
theorem land_ok (m : Int) {code : List Nat} (hc : figs code 1 3 = true) (hc0 : code[0]? ≠ some 48) : ∃ l : Land, den__law_land [.int m, .str code] = .ok (Dat.d l) ∧ landB l = true ∧ l.code = code := by
  have loop := forS_inv (g := .nm 3) (body := (sSeq (sAsg [] 4 (mCall den__law_one_row (aCons (mCall den__law_drawn (aCons (mVar 0) (aCons (mVar 3) (aNil)))) (aNil))))
      (sIf [2] (mB (m2 notInD (mSl (mVar 4) (oSome (mC (.int 1))) (oSome (mC (.int 3)))) (mOfL (fLc [5] (.nm 5) (iOf iterF (mVar 2)) (bYes) (mSl (mVar 5) (oSome (mC (.int 1))) (oSome (mC (.int 3)))))))) (sApp [] 2 (mVar 4)) (sNil))))
    (fun i : Nat => D.int (i : Int)) (fun n ρ => ∃ (rs : List Row) (z1 z2 : Sl), ρ = [.val (.int m), .val (.str code), .own (rs.map Dat.d), z1, z2, .no] ∧ rs.length ≤ n ∧ (1 ≤ n → 1 ≤ rs.length) ∧ (rs.all rowB = true) ∧ (rs.map rkey).Nodup)
    (List.range (1 + m % 5).toNat) 0 [.val (.int m), .val (.str code), .own [], .no, .no, .no] ⟨[], .no, .no, rfl, by simp, by simp, rfl, by simp⟩ (fun k x ρ hk ⟨rs, z1, z2, hρ, h1, h2, h3, h4⟩ => by
      subst hρ
      have hx : x < (1 + m % 5).toNat ∧ x = k := by
        have := List.getElem?_eq_some_iff.mp hk
        obtain ⟨q1, q2⟩ := this
        simp at q1 q2
        omega
      have h5 := mod_bd m (j := 5) (by decide)
      obtain ⟨r, er, hr⟩ := one_row_ok (drawn m (x : Int))
      have hin := inD_dat (rkey r) (rs.map rkey)
      have e0 : ((rs.map rkey).map Dat.d) = rs.map fun r => D.tup [.str r.begin, .int r.size] := by simp [rkey, Dat.d]
      rw [e0] at hin
      have hin' : inD (.tup [.str r.begin, .int r.size]) (.lst (rs.map fun r => D.tup [.str r.begin, .int r.size])) = .ok (.bl (decide (rkey r ∈ rs.map rkey))) := hin
      have ev : freeze [2] [.val (.int m), .val (.str code), .own (rs.map Dat.d), .val (.int (x : Int)), .val (Dat.d r), .no] = [.val (.int m), .val (.str code), .val (.lst (rs.map Dat.d)), .val (.int (x : Int)), .val (Dat.d r), .no] := by
        rw [freeze_own rfl]; simp
      have lc : ∀ ρ : EnvD, ρ.length = 6 → lcG (.nm 5) bYes (mSl (mVar 5) (oSome (mC (.int 1))) (oSome (mC (.int 3)))) ρ (rs.map Dat.d) = .ok (rs.map fun r => D.tup [.str r.begin, .int r.size]) := fun ρ hρ => lcG_all Dat.d _ rs fun y hy => by
        match ρ, hρ with
        | [a, b, c, d, e, f], _ => exact ⟨_, bindT_nm, by simp [row_d, cut13]⟩
      refine ⟨[.val (.int m), .val (.str code), .own (rs.map Dat.d), .val (.int (x : Int)), z2, .no], [.val (.int m), .val (.str code), .own ((if rkey r ∈ rs.map rkey then rs else rs ++ [r]).map Dat.d), .val (.int (x : Int)), .val (Dat.d r), .no], by simp, .inl ?_, ?_⟩
      · have ap : sApp [] 2 (mVar 4) [.val (.int m), .val (.str code), .own (rs.map Dat.d), .val (.int (x : Int)), .val (Dat.d r), .no] = .next [.val (.int m), .val (.str code), .own ((rs ++ [r]).map Dat.d), .val (.int (x : Int)), .val (Dat.d r), .no] := by
          rw [sApp_any (ds := rs.map Dat.d) (d := Dat.d r) rfl (freeze_nil) (by simp) rfl rfl (by simp; omega)]
          simp
        simp [drawn_eq, er, flat_row, ev, sl_row, -List.mem_map]
        rw [lc _ (by simp)]
        simp [hin', -List.mem_map]
        by_cases c : rkey r ∈ rs.map rkey
        · simp [c, -List.mem_map]
        · simp [c, -List.mem_map, ap]
      · refine ⟨_, _, _, rfl, ?_, ?_, ?_, ?_⟩
        · split <;> simp <;> omega
        · intro _
          split
          · rename_i c
            cases rs with
            | nil => simp at c
            | cons a b => simp
          · simp
        · split
          · exact h3
          · simp at h3 ⊢
            exact ⟨h3, hr⟩
        · split
          · exact h4
          · rename_i c
            rw [List.map_append]
            refine List.nodup_append.mpr ⟨h4, by simp, fun a ha b hb e => ?_⟩
            simp at hb
            subst hb; subst e
            exact c ha)
  obtain ⟨ρ', e1, rs, z1, z2, rfl, g1, g2, g3, g4⟩ := loop
  have h5 := mod_bd m (j := 5) (by decide)
  have hlen : (List.range (1 + m % 5).toNat).length = (1 + m % 5).toNat := List.length_range
  rw [hlen] at g1 g2
  obtain ⟨far, hfar, e2⟩ := pickD D.str [[48], [48, 48], [48, 49, 49], [57], [49]] (mod_bd (m / 8) (j := 5) (by decide)).1 (mod_bd (m / 8) (j := 5) (by decide)).2
  obtain ⟨tr, htr, e3⟩ := pickD D.str [[48], [], [56], [48], [48, 49]] (mod_bd (m / 64) (j := 5) (by decide)).1 (mod_bd (m / 64) (j := 5) (by decide)).2
  have f1 : fdivD (.int m) (.int 8) = .ok (.int (m / 8)) := fdiv_ok (by decide) (by decide)
  have f2 : fdivD (.int m) (.int 64) = .ok (.int (m / 64)) := fdiv_ok (by decide) (by decide)
  have c1 : figs far 1 4 = true := by
    have : ([[48], [48, 48], [48, 49, 49], [57], [49]].all fun s => figs s 1 4) = true := by decide
    exact List.all_eq_true.mp this far hfar
  have c2 : figs tr 0 2 = true := by
    have : ([[48], [], [56], [48], [48, 49]].all fun s => figs s 0 2) = true := by decide
    exact List.all_eq_true.mp this tr htr
  have fz : freeze [2] [.val (.int m), .val (.str code), .own (rs.map Dat.d), z1, z2, .no] = [.val (.int m), .val (.str code), .val (.lst (rs.map Dat.d)), z1, z2, .no] := by
    rw [freeze_own rfl]; simp
  refine ⟨⟨code, far, tr, rs⟩, ?_, ?_, rfl⟩
  · simp at e1 e2 e3
    simp [den__law_land, runB, m__law_land, startS]
    rw [if_pos (by omega)]
    simp [upTo0]
    rw [e1]
    simp [fz, -fdiv_int, f1, f2, e2, e3, land_d]
  · have q1 : 1 ≤ rs.length := g2 (by omega)
    have q2 : rs.length ≤ 8 := by omega
    have q3 : (rs.map fun r => (r.begin, r.size)).Nodup := g4
    simp [landB, hc, hc0, c1, c2, q1, q2, q3]
    simpa using g3
/-! a book -/
abbrev codesAll : List (List Nat) := [[49], [50, 48], [50, 49], [51], [52, 52], [52, 53, 53], [55, 55]]
structure BookOk (b : List Land) : Prop where
  ok : bookB b = true
  once : (b.map Land.code).Nodup
  codes : ∀ c ∈ b.map Land.code, c ∈ codesAll
theorem zip_pairs {α : Type} {R : α → α → Prop} : ∀ {l : List α}, l.Pairwise R → ∀ p ∈ l.dropLast.zip (l.drop 1), R p.1 p.2
  | [], _, p, hp => by simp at hp
  | [a], _, p, hp => by simp at hp
  | a :: b :: l, h, p, hp => by
    simp only [List.dropLast_cons₂, List.drop_one, List.tail_cons, List.zip_cons_cons, List.mem_cons] at hp
    rcases hp with rfl | hp
    · exact (List.pairwise_cons.mp h).1 b List.mem_cons_self
    · refine zip_pairs (List.pairwise_cons.mp h).2 p ?_
      simpa using hp
theorem bookOk_of {b : List Land} (h1 : 1 ≤ b.length) (h2 : b.length ≤ 6) (h3 : ∀ l ∈ b, landB l = true) (h4 : (b.map Land.code).Sublist codesAll) : BookOk b := by
  have pw : codesAll.Pairwise fun a c => stepB a c = true := by decide
  have nd : codesAll.Nodup := by decide
  refine ⟨?_, nd.sublist h4, fun c h => h4.subset h⟩
  have pw2 := pw.sublist h4
  unfold bookB
  simp only [Bool.and_eq_true, decide_eq_true_eq, List.all_eq_true]
  exact ⟨⟨h1, h2⟩, h3, zip_pairs pw2⟩
theorem lands_ok (m : Int) : ∀ (cs : List (List Nat)) (n : Nat), (∀ c ∈ cs, figs c 1 3 = true ∧ c[0]? ≠ some 48) → ∃ b : List Land, b.map Land.code = cs ∧ (∀ l ∈ b, landB l = true) ∧
    ∀ ρ : EnvD, ρ.length = 5 → ρ[0]? = some (some (.int m)) → lcG (.tp [.nm 3, .nm 4]) bYes (mCall den__law_land (aCons (mCall den__law_drawn (aCons (mVar 0) (aCons (m2 addD (mC (.int 20)) (mVar 3)) (aNil)))) (aCons (mVar 4) (aNil)))) ρ (enumFrom n (cs.map .str)) = .ok (b.map Dat.d)
  | [], n, _ => ⟨[], rfl, fun l h => (nomatch h), fun ρ _ _ => rfl⟩
  | c :: cs, n, h => by
    obtain ⟨h1, h2⟩ := h c List.mem_cons_self
    obtain ⟨l, e1, e2, e3⟩ := land_ok (drawn m (20 + (n : Int))) h1 h2
    obtain ⟨b, g1, g2, g3⟩ := lands_ok m cs (n + 1) fun x hx => h x (List.mem_cons_of_mem _ hx)
    refine ⟨l :: b, by rw [List.map_cons, e3, g1], fun x hx => ?_, fun ρ hl h0 => ?_⟩
    · rcases List.mem_cons.mp hx with rfl | hx
      · exact e2
      · exact g2 x hx
    · have g := g3 ρ hl h0
      match ρ, hl with
      | [a, b, c, d, e], _ =>
        simp at h0
        subst h0
        simp [enumFrom, lcG, g, drawn_eq, e1]
theorem book_ok (m : Int) : ∃ b : List Land, den__law_book [.int m] = .ok (bookD b) ∧ BookOk b := by
  have cf : ∀ c ∈ codesAll, figs c 1 3 = true ∧ c[0]? ≠ some 48 := by decide
  have all : [D.str [49], .str [50, 48], .str [50, 49], .str [51], .str [52, 52], .str [52, 53, 53], .str [55, 55]] = codesAll.map .str := rfl
  have em : enumFrom 0 (codesAll.map .str) = codesAll.zipIdx.map fun p => .tup [.int (p.2 : Nat), .str p.1] := enumFrom_map D.str codesAll 0
  obtain ⟨one, hone, e1⟩ := pickD D.str codesAll (mod_bd m (j := 7) (by decide)).1 (mod_bd m (j := 7) (by decide)).2
  generalize hc : codesAll = ca at *
  generalize hS : ((ca.zipIdx.filter fun p => decide (drawn m (p.2 : Nat) % 3 = 0)).map Prod.fst).take 4 = some_
  have sub : some_.Sublist ca := by
    rw [← hS]
    refine (List.take_sublist _ _).trans ?_
    refine (List.filter_sublist.map Prod.fst).trans ?_
    rw [List.zipIdx_map_fst]
    exact .refl _
  have hlen : some_.length ≤ 4 := by rw [← hS]; simp; omega
  generalize hT : (if some_ = [] then [one] else some_) = use_
  have sub2 : use_.Sublist ca := by
    rw [← hT]
    split
    · exact List.singleton_sublist.mpr hone
    · exact sub
  have len2 : 1 ≤ use_.length ∧ use_.length ≤ 4 := by
    rw [← hT]
    split
    · simp
    · rename_i h
      exact ⟨List.length_pos_iff.mpr h, hlen⟩
  obtain ⟨b, g1, g2, g3⟩ := lands_ok m use_ 0 fun c h => cf c (sub2.subset h)
  refine ⟨b, ?_, ?_⟩
  · simp [den__law_book, runB, m__law_book, startS]
    rw [all]
    simp [em]
    rw [lcG_map (fun p : List Nat × Nat => .tup [.int (p.2 : Nat), .str p.1]) (fun p => decide (drawn m (p.2 : Nat) % 3 = 0)) (fun p => .str p.1) ca.zipIdx fun x hx => ⟨_, by simp; rfl, by simp [drawn_eq], by simp⟩]
    have c4 : cutL ((ca.zipIdx.filter fun p => decide (drawn m (p.2 : Nat) % 3 = 0)).map fun p => D.str p.1) none (some 4) = some_.map .str := by
      rw [show (4 : Int) = ((4 : Nat) : Int) from rfl, cut_to, ← hS]
      simp [List.map_take]
      rfl
    have ne : neD (.lst (some_.map .str)) (.lst []) = .ok (.bl (!some_.isEmpty)) := neD_nil (α := List Nat) some_
    simp [c4, ne]
    have e3 : (if some_ = [] then (Res.ok (D.lst [.str one]) : Res D) else .ok (.lst (some_.map .str))) = .ok (.lst (use_.map .str)) := by
      rw [← hT]
      split <;> simp
    simp [e1]
    rw [e3]
    simp
    rw [g3 _ (by simp) rfl]
    simp [bookD]
  · refine bookOk_of ?_ ?_ g2 (by rw [g1, hc]; exact sub2)
    · have := congrArg List.length g1; rw [List.length_map] at this; omega
    · have := congrArg List.length g1; rw [List.length_map] at this; omega
/-! numbers -/
theorem joinL_nil : ∀ ys : List (List Nat), joinL [] ys = ys.flatten
  | [] => rfl
  | [x] => by simp [joinL]
  | x :: y :: r => by
    have ih := joinL_nil (y :: r)
    simp only [joinL, ih]
    simp
theorem str1 {i : Int} (h0 : 0 ≤ i) (h : i < 10) : strF [.int i] = .ok (.str [48 + i.toNat]) := by
  show (if 0 ≤ i ∧ i < 2 ^ 60 then Res.ok (D.str (digN i.toNat)) else .stk) = _
  rw [if_pos ⟨h0, by omega⟩, digN_lt (by omega)]
theorem flat1 {α : Type} (l : List α) : (l.map fun x => [x]).flatten = l := by induction l with
  | nil => rfl
  | cons x l ih => simp only [List.map_cons, List.flatten_cons, ih]; rfl
theorem sum1 {α : Type} (l : List α) : (l.map fun _ => 1).sum = l.length := by induction l with
  | nil => rfl
  | cons x l ih => simp only [List.map_cons, List.sum_cons, ih, List.length_cons]; omega
theorem join_map (ys : List (List Nat)) (h : (ys.map (·.length)).sum ≤ 1000000) : joinS [] (.lst (ys.map .str)) = .ok (.str ys.flatten) := by
  show ((oR (asStrs (ys.map .str))).bind fun ys => if (ys.map (·.length)).sum + ys.length * ([] : List Nat).length ≤ LIM then Res.ok (D.str (joinL [] ys)) else .stk) = _
  rw [asStrs_map]
  simp only [oR_some, Res.bind_ok, List.length_nil, Nat.mul_zero, Nat.add_zero, joinL_nil]
  exact if_pos h
theorem join1 (s : List Nat) (h : s.length ≤ 1000000) : joinS [] (.lst (s.map fun c => .str [c])) = .ok (.str s) := by
  have e : (s.map fun c => D.str [c]) = (s.map fun c => [c]).map .str := by simp
  rw [e, join_map _ (by simp only [List.map_map]; show (s.map fun _ => 1).sum ≤ 1000000; rw [sum1]; exact h), flat1]
theorem digits_ok (m : Int) {r : Row} (hr : rowB r = true) : ∃ s : List Nat, den__law_digits [.int m, Dat.d r] = .ok (.str s) ∧ (s.length : Int) = r.size ∧ s.all figB = true ∧ r.begin <+: s := by
  obtain ⟨h1, h2, h3, h4, h5⟩ := rowB_size hr
  obtain ⟨q, hq, e1⟩ := pickD D.int [10, 3] (mod_bd m (j := 2) (by decide)).1 (mod_bd m (j := 2) (by decide)).2
  have hq2 : 0 < q ∧ q ≤ 10 := by simp at hq; omega
  generalize hc : r.size.toNat - r.begin.length = c
  have hc2 : (c : Int) = r.size - r.begin.length := by omega
  have dg : ∀ j : Nat, 0 ≤ drawn m j / 8 % q ∧ drawn m j / 8 % q < 10 := fun j => by
    have := mod_bd (drawn m j / 8) hq2.1
    omega
  generalize hy : ((List.range c).map fun j : Nat => 48 + (drawn m j / 8 % q).toNat) = ds
  have len : ds.length = c := by rw [← hy]; simp
  have e1' : ixD (.lst [.int 10, .int 3]) (.int (m % 2)) = .ok (.int q) := e1
  have f : ∀ i : Int, fdivD (.int i) (.int 8) = .ok (.int (i / 8)) := fun i => fdiv_ok (by decide) (by decide)
  refine ⟨r.begin ++ ds, ?_, ?_, ?_, List.prefix_append _ _⟩
  · simp [den__law_digits, runB, m__law_digits, startS, row_d]
    rw [if_pos (by omega), hc]
    simp [upTo0]
    rw [lcG_all (fun j : Nat => .int (j : Int)) (fun j : Nat => .str [48 + (drawn m j / 8 % q).toNat]) (List.range c) fun j hj => ⟨_, bindT_nm, by
      have d := dg j
      simp [drawn_eq, -fdiv_int, f, e1', hq2.1, str1 d.1 d.2]⟩]
    have e2 : ((List.range c).map fun j : Nat => D.str [48 + (drawn m j / 8 % q).toNat]) = ds.map fun c => .str [c] := by rw [← hy]; simp
    rw [e2]
    simp [join1 ds (by omega)]
    rw [if_pos (by omega)]
    simp
  · rw [List.length_append, Int.natCast_add, len]; omega
  · rw [List.all_append, h5, Bool.true_and, List.all_eq_true]
    intro x hx
    rw [← hy] at hx
    simp at hx
    obtain ⟨j, _, rfl⟩ := hx
    have d := dg j
    have hl : (drawn m j / 8 % q).toNat < 10 := by omega
    generalize (drawn m j / 8 % q).toNat = n at hl
    unfold figB
    simp
    omega
theorem rowOf_some {digits : List Nat} : ∀ {rows : List Row} {best : Option Row}, (best.isSome = true ∨ ∃ r ∈ rows, fitsB digits r = true) → (rows.foldl (rowStep digits) best).isSome = true
  | [], best, h => by
    rcases h with h | ⟨r, h, _⟩
    · exact h
    · cases h
  | x :: rows, best, h => by
    refine rowOf_some (rows := rows) (best := rowStep digits best x) ?_
    unfold rowStep
    rcases h with h | ⟨r, hr, hf⟩
    · left; split
      · rfl
      · exact h
    · rcases List.mem_cons.mp hr with rfl | hr
      · left
        cases best with
        | none => simp [hf, better]
        | some q => split <;> rfl
      · exact .inr ⟨r, hr, hf⟩
theorem landOf_mem {b : List Land} (nd : (b.map Land.code).Nodup) {l : Land} (h : l ∈ b) : landOf b l.code = some l := by
  induction b with
  | nil => cases h
  | cons x b ih =>
    rw [List.map_cons, List.nodup_cons] at nd
    unfold landOf
    rcases List.mem_cons.mp h with rfl | h
    · simp
    · have : ¬ x.code = l.code := fun e => nd.1 (e ▸ List.mem_map_of_mem h)
      rw [List.find?_cons_of_neg (by simpa using this)]
      exact ih nd.2 h
theorem book_land {b : List Land} (h : BookOk b) {l : Land} (hl : l ∈ b) : landB l = true := by
  have := h.ok
  unfold bookB at this
  simp only [Bool.and_eq_true, List.all_eq_true] at this
  exact this.2.1 l hl
theorem land_rows {l : Land} (h : landB l = true) : 1 ≤ l.rows.length ∧ l.rows.length ≤ 8 ∧ (∀ r ∈ l.rows, rowB r = true) ∧ figs l.code 1 3 = true := by
  unfold landB at h
  simp only [Bool.and_eq_true, decide_eq_true_eq, List.all_eq_true] at h
  exact ⟨h.2.2.2.2.1.1, h.2.2.2.2.1.2, h.2.2.2.2.2.1, h.1⟩
theorem number_ok {b : List Land} (hb : BookOk b) (m : Int) : ∃ n : Num, den__law_number [bookD b, .int m] = .ok (Dat.d n) ∧ numB b n = true ∧ n.2.length ≤ 12 ∧ n.1 ∈ b.map Land.code ∧ n.2.all figB = true ∧ 3 ≤ n.2.length := by
  have hlen : 1 ≤ b.length ∧ b.length ≤ 6 := by
    have := hb.ok
    unfold bookB at this
    simp only [Bool.and_eq_true, decide_eq_true_eq] at this
    exact this.1
  have hz : (0 : Int) < (b.length : Int) := by omega
  obtain ⟨l, hl, e1⟩ : ∃ l ∈ b, ixD (bookD b) (.int (m % (b.length : Int))) = .ok (Dat.d l) := by
    have q := mod_bd m hz
    refine ⟨b[(m % (b.length : Int)).toNat]'(by omega), List.getElem_mem _, ?_⟩
    unfold bookD
    rw [ix_tup (atI_pos _ q.1 (by rw [List.length_map]; exact q.2))]
    simp
  obtain ⟨r1, r2, r3, r4⟩ := land_rows (book_land hb hl)
  have hz2 : (0 : Int) < (l.rows.length : Int) := by omega
  obtain ⟨r, hr, e2⟩ : ∃ r ∈ l.rows, ixD (.tup (l.rows.map Dat.d)) (.int (m / 8 % (l.rows.length : Int))) = .ok (Dat.d r) := by
    have q := mod_bd (m / 8) hz2
    refine ⟨l.rows[(m / 8 % (l.rows.length : Int)).toNat]'(by omega), List.getElem_mem _, ?_⟩
    rw [ix_tup (atI_pos _ q.1 (by rw [List.length_map]; exact q.2))]
    simp
  obtain ⟨s, e3, s1, s2, s3⟩ := digits_ok (drawn m 1) (r3 r hr)
  obtain ⟨h1, h2, h3, h4, h5⟩ := rowB_size (r3 r hr)
  have f : fdivD (.int m) (.int 8) = .ok (.int (m / 8)) := fdiv_ok (by decide) (by decide)
  have hsome : (rowOf l.rows s).isSome = true := rowOf_some (.inr ⟨r, hr, by simp [fitsB, s1, s3]⟩)
  have hfig : figs s 3 12 = true := by unfold figs; simp only [s2, Bool.and_true, Bool.and_eq_true, decide_eq_true_eq]; omega
  refine ⟨(l.code, s), ?_, ?_, by show s.length ≤ 12; omega, List.mem_map_of_mem hl, s2, by show 3 ≤ s.length; omega⟩
  · have lb : lenF [bookD b] = .ok (.int (b.length : Int)) := by unfold bookD; simp
    have c0 : ixD (Dat.d l) (.int 0) = .ok (.str l.code) := by rw [land_d]; simp
    have c3 : ixD (Dat.d l) (.int 3) = .ok (.tup (l.rows.map Dat.d)) := by rw [land_d]; simp
    have lr : lenF [.tup (l.rows.map (Dat.d (α := Row)))] = .ok (.int (l.rows.length : Int)) := by simp
    generalize (b.length : Int) = L at *
    generalize (l.rows.length : Int) = L2 at *
    simp [den__law_number, runB, m__law_number, startS, lb, mod_ok hz, e1, flat_land, c0, c3, -len_tup, lr, mod_ok hz2, -fdiv_int, f, e2, drawn_eq, e3]
    rfl
  · simp [numB, landOf_mem hb.once hl, hfig, hsome]
end DL
namespace DL
/-! ## readings: the program's, on data -/
theorem whole_sum (qs : List Pc) : ((qs.map (·.1)).map (·.length)).sum = (whole qs).length := by
  unfold whole
  rw [List.length_flatten]
theorem figures_d (qs : List Pc) (h : (whole qs).length ≤ 1000000) : den_figures_of [.lst (qs.map pcD)] = .ok (.str (whole qs)) := by
  simp [den_figures_of, runB, m_figures_of, startS]
  rw [lcG_all pcD (fun p => .str p.1) qs fun x hx => ⟨_, by simp [pcD]; rfl, by simp⟩]
  have e : (qs.map fun p => D.str p.1) = (qs.map (·.1)).map .str := by simp
  rw [e]
  simp only [Res.bind_ok]
  rw [join_map _ (by rw [whole_sum]; exact h)]
  rfl
theorem whole_drop_le (qs : List Pc) (k : Nat) : (whole (qs.drop k)).length ≤ (whole qs).length := by
  have : whole qs = whole (qs.take k) ++ whole (qs.drop k) := by rw [← whole_app, List.take_append_drop]
  rw [this, List.length_append]; omega
theorem wo_loop (qs : List Pc) (skip : Nat) (t : List Nat) (hl : (whole qs).length ≤ 100000) : ∀ (r : List Pc) (k p : Nat) (z4 z5 z6 : Sl), qs.drop k = r → p + (whole r).length ≤ 100000 →
    (∃ z, woGo skip t p r = some z ∧ forS (.tp [.nm 4, .tp [.nm 5, .nm 6]]) (sSeq (sIf [] (bAnd (mB (m2 eqD (mVar 3) (mVar 1))) (bAnd (mB (mVar 6)) (mB (m2 eqD (mVar 5) (mVar 2))))) (sRet [] (mCall den_figures_of (aCons (mSl (mVar 0) (oSome (m2 addD (mVar 4) (mC (.int 1)))) (oNone)) (aNil)))) (sNil))
      (sAsg [] 3 (m2 addD (mVar 3) (mCall lenF (aCons (mVar 5) (aNil)))))) (enumFrom k (r.map pcD)) [.val (.lst (qs.map pcD)), .val (.int (skip : Nat)), .val (.str t), .val (.int (p : Nat)), z4, z5, z6] = .ret (.str z)) ∨
    (∃ p' z4' z5' z6', woGo skip t p r = none ∧ forS (.tp [.nm 4, .tp [.nm 5, .nm 6]]) (sSeq (sIf [] (bAnd (mB (m2 eqD (mVar 3) (mVar 1))) (bAnd (mB (mVar 6)) (mB (m2 eqD (mVar 5) (mVar 2))))) (sRet [] (mCall den_figures_of (aCons (mSl (mVar 0) (oSome (m2 addD (mVar 4) (mC (.int 1)))) (oNone)) (aNil)))) (sNil))
      (sAsg [] 3 (m2 addD (mVar 3) (mCall lenF (aCons (mVar 5) (aNil)))))) (enumFrom k (r.map pcD)) [.val (.lst (qs.map pcD)), .val (.int (skip : Nat)), .val (.str t), .val (.int (p : Nat)), z4, z5, z6] = .next [.val (.lst (qs.map pcD)), .val (.int (skip : Nat)), .val (.str t), .val (.int (p' : Nat)), z4', z5', z6'])
  | [], k, p, z4, z5, z6, _, _ => .inr ⟨p, z4, z5, z6, rfl, rfl⟩
  | (d, own) :: r, k, p, z4, z5, z6, hk, hp => by
    have hr : qs.drop (k + 1) = r := by
      rw [← List.drop_drop, hk]; rfl
    rw [whole_cons, List.length_append] at hp
    simp only at hp
    have fg : den_figures_of [.lst (r.map pcD)] = .ok (.str (whole r)) := figures_d r (by omega)
    have ct : cutL (qs.map pcD) (some ((k : Int) + 1)) none = r.map pcD := by
      rw [show (k : Int) + 1 = ((k + 1 : Nat) : Int) by omega, cut_from, ← List.map_drop, hr]
    simp only [List.map_cons, enumFrom]
    rw [forS]
    unfold woGo
    simp [pcD]
    by_cases c1 : (p : Int) = skip
    · have c1' : p = skip := by omega
      cases own with
      | true =>
        by_cases c3 : d = t
        · left
          refine ⟨whole r, by simp [c1', c3], ?_⟩
          have fm : (List.map (fun p : Pc => D.tup [.str p.1, .bl p.2]) qs) = qs.map pcD := rfl
          simp [c1, c3, ct, fg]
        · simp [c1, c3]
          have ih := wo_loop qs skip t hl r (k + 1) (p + d.length) (.val (.int (k : Nat))) (.val (.str d)) (.val (.bl true)) hr (by omega)
          simp [c3, c1']
          simpa [pcD, c1'] using ih
      | false =>
        simp [c1]
        have ih := wo_loop qs skip t hl r (k + 1) (p + d.length) (.val (.int (k : Nat))) (.val (.str d)) (.val (.bl false)) hr (by omega)
        simpa [pcD, c1'] using ih
    · have c1' : ¬ p = skip := by omega
      simp [c1, c1']
      have ih := wo_loop qs skip t hl r (k + 1) (p + d.length) (.val (.int (k : Nat))) (.val (.str d)) (.val (.bl own)) hr (by omega)
      simpa [pcD, c1'] using ih
theorem without_d (qs : List Pc) (skip : Nat) (t : List Nat) (hl : (whole qs).length ≤ 100000) : den_without_ahead [.lst (qs.map pcD), .int (skip : Nat), .str t] = .ok (.str (wo qs skip t)) := by
  have fg := figures_d qs (by omega)
  unfold wo
  simp [den_without_ahead, runB, m_without_ahead, startS]
  rcases wo_loop qs skip t hl qs 0 0 .no .no .no rfl (by omega) with ⟨z, h1, h2⟩ | ⟨p', z4, z5, z6, h1, h2⟩
  · simp at h2
    rw [h2, h1]; simp
  · simp at h2
    rw [h2, h1]
    simp [fg, cut_from]
end DL
namespace DL
def farOne (qs : List Pc) (skip : Nat) (l : Land) : List Num := if l.code.isPrefixOf ((whole qs).drop skip) = true then [(l.code, wo qs (skip + l.code.length) l.trunk), (l.code, ((whole qs).drop skip).drop l.code.length)] else []
def farL (b : List Land) (qs : List Pc) (skip : Nat) : List Num := b.flatMap (farOne qs skip)
theorem farL_len (b : List Land) (qs : List Pc) (skip : Nat) : (farL b qs skip).length ≤ 2 * b.length := by
  unfold farL
  induction b with
  | nil => simp
  | cons l b ih =>
    rw [List.flatMap_cons, List.length_append, List.length_cons]
    have : (farOne qs skip l).length ≤ 2 := by unfold farOne; split <;> simp
    omega
theorem app_num {i : Nat} {ρ : EnvS} {me : EnvD → Res D} {ns : List Num} {n : Num} (h : ρ[i]? = some (.own (ns.map Dat.d))) (e : me (vis ρ) = .ok (Dat.d n)) (l : ns.length < 1000000) : sApp [] i me ρ = .next (ρ.set i (.own ((ns ++ [n]).map Dat.d))) := by
  rw [sApp_any (ds := ns.map Dat.d) (d := Dat.d n) h (freeze_nil) e rfl h (by simpa using l)]
  simp
theorem far_d {b : List Land} (hb : b.length ≤ 6) (qs : List Pc) (skip : Nat) (hl : (whole qs).length ≤ 100000) : den_far_ones [bookD b, .lst (qs.map pcD), .int (skip : Nat)] = .ok (.lst ((farL b qs skip).map Dat.d)) := by
  have fg := figures_d qs (by omega)
  obtain ⟨ρ', e1, z5, z6, rfl⟩ := forS_inv (g := .nm 5) (body := (sIf [] (mB (mS1 startsS (mVar 4) (m2 ixD (mVar 5) (mC (.int 0))))) (sSeq (sAsg [] 6 (mCall den_without_ahead (aCons (mVar 1) (aCons (m2 addD (mVar 2) (mCall lenF (aCons (m2 ixD (mVar 5) (mC (.int 0))) (aNil)))) (aCons (m2 ixD (mVar 5) (mC (.int 2))) (aNil))))))
      (sSeq (sApp [] 3 (mTup (aCons (m2 ixD (mVar 5) (mC (.int 0))) (aCons (mVar 6) (aNil)))))
      (sApp [] 3 (mTup (aCons (m2 ixD (mVar 5) (mC (.int 0))) (aCons (mSl (mVar 4) (oSome (mCall lenF (aCons (m2 ixD (mVar 5) (mC (.int 0))) (aNil)))) (oNone)) (aNil))))))) (sNil)))
    Dat.d (fun k ρ => ∃ z5 z6 : Sl, ρ = [.val (bookD b), .val (.lst (qs.map pcD)), .val (.int (skip : Nat)), .own ((farL (b.take k) qs skip).map Dat.d), .val (.str ((whole qs).drop skip)), z5, z6]) b 0 [.val (bookD b), .val (.lst (qs.map pcD)), .val (.int (skip : Nat)), .own [], .val (.str ((whole qs).drop skip)), .no, .no] ⟨.no, .no, by simp [farL]⟩ fun k l ρ hk ⟨z5, z6, hρ⟩ => by
      subst hρ
      rw [Nat.zero_add]
      have tk : b.take (k + 1) = b.take k ++ [l] := by rw [List.take_succ, hk]; rfl
      have fk : farL (b.take (k + 1)) qs skip = farL (b.take k) qs skip ++ farOne qs skip l := by
        rw [tk]; unfold farL; rw [List.flatMap_append]; simp
      have al := farL_len (b.take k) qs skip
      have al2 : (b.take k).length ≤ 6 := by simp; omega
      generalize hA : farL (b.take k) qs skip = acc at al fk
      have wd := without_d qs (skip + l.code.length) l.trunk hl
      have sk : (skip : Int) + (l.code.length : Nat) = ((skip + l.code.length : Nat) : Int) := by omega
      have i0 : ixD (Dat.d l) (.int 0) = .ok (.str l.code) := by rw [land_d]; simp
      have i2 : ixD (Dat.d l) (.int 2) = .ok (.str l.trunk) := by rw [land_d]; simp
      refine ⟨[.val (bookD b), .val (.lst (qs.map pcD)), .val (.int (skip : Nat)), .own (acc.map Dat.d), .val (.str ((whole qs).drop skip)), .val (Dat.d l), z6], _, by simp, .inl ?_, .val (Dat.d l), (if l.code.isPrefixOf ((whole qs).drop skip) = true then .val (.str (wo qs (skip + l.code.length) l.trunk)) else z6), rfl⟩
      by_cases c : l.code.isPrefixOf ((whole qs).drop skip) = true
      · rw [fk]
        have fo : farOne qs skip l = [(l.code, wo qs (skip + l.code.length) l.trunk), (l.code, ((whole qs).drop skip).drop l.code.length)] := by unfold farOne; rw [if_pos c]
        rw [fo]
        generalize hW : wo qs (skip + l.code.length) l.trunk = W at wd
        generalize hR : (whole qs).drop skip = R at c
        have a1 := app_num (i := 3) (ρ := [.val (bookD b), .val (.lst (qs.map pcD)), .val (.int (skip : Nat)), .own (acc.map Dat.d), .val (.str R), .val (Dat.d l), .val (.str W)]) (me := mTup (aCons (m2 ixD (mVar 5) (mC (.int 0))) (aCons (mVar 6) (aNil)))) (ns := acc) (n := (l.code, W)) rfl (by simp [i0]; rfl) (by omega)
        have a2 := app_num (i := 3) (ρ := [.val (bookD b), .val (.lst (qs.map pcD)), .val (.int (skip : Nat)), .own ((acc ++ [(l.code, W)]).map Dat.d), .val (.str R), .val (Dat.d l), .val (.str W)]) (me := mTup (aCons (m2 ixD (mVar 5) (mC (.int 0))) (aCons (mSl (mVar 4) (oSome (mCall lenF (aCons (m2 ixD (mVar 5) (mC (.int 0))) (aNil)))) (oNone)) (aNil)))) (ns := acc ++ [(l.code, W)]) (n := (l.code, R.drop l.code.length)) rfl (by simp [i0, cut_from]; rfl) (by simp; omega)
        have c' : l.code <+: R := List.isPrefixOf_iff_prefix.mp c
        simp only [List.set_cons_succ, List.set_cons_zero] at a1 a2
        have st : startsS R (.str l.code) = .ok (.bl true) := by rw [starts_str, c]
        rw [sIf_eq, freeze_nil]
        simp only [vis_cons, vis_nil, visS_val, visS_own, mB_eq, mS1_eq, mVar0, mVarS, m2_eq, mC_eq, Res.bind_ok, asS_str, i0, st, asB_bl, out_ok, if_true]
        rw [sSeq_eq, sAsg_eq, freeze_nil]
        simp only [vis_cons, vis_nil, visS_val, visS_own, mCall_eq, aCons_eq, aNil_eq, mVar0, mVarS, m2_eq, mC_eq, Res.bind_ok, i0, i2, len_str, add_int, sk, wd, out_ok, flat_str, if_true, List.set_cons_succ, List.set_cons_zero, seq_next]
        rw [sSeq_eq, a1]
        simp only [seq_next]
        rw [a2]
        simp [c']
      · rw [fk]
        have fo : farOne qs skip l = [] := by unfold farOne; rw [if_neg c]
        have c' : ¬ l.code <+: (whole qs).drop skip := fun z => c (List.isPrefixOf_iff_prefix.mpr z)
        rw [fo]
        simp [i0, c']
  rw [Nat.zero_add, List.take_length] at e1
  have fz : freeze [3] [.val (bookD b), .val (.lst (qs.map pcD)), .val (.int (skip : Nat)), .own ((farL b qs skip).map Dat.d), .val (.str ((whole qs).drop skip)), z5, z6] = [.val (bookD b), .val (.lst (qs.map pcD)), .val (.int (skip : Nat)), .val (.lst ((farL b qs skip).map Dat.d)), .val (.str ((whole qs).drop skip)), z5, z6] := by
    rw [freeze_own rfl]; simp
  have ib : iterT (bookD b) = .ok (b.map Dat.d) := rfl
  simp [den_far_ones, runB, m_far_ones, startS, fg, cut_from, ib]
  rw [e1]
  simp [fz]
end DL
namespace DL
/-! ## what the pieces hold -/
theorem whole_put (c : Nat) : ∀ ps : List Pc, (whole (putLast c ps)).length ≤ (whole ps).length + 1 ∧ ∀ x ∈ whole (putLast c ps), x ∈ whole ps ∨ x = c
  | [] => ⟨by simp [putLast, whole], fun x h => by simp [putLast, whole] at h⟩
  | [p] => ⟨by simp [putLast, whole], fun x h => by simpa [putLast, whole] using h⟩
  | p :: q :: r => by
    obtain ⟨h1, h2⟩ := whole_put c (q :: r)
    have e : putLast c (p :: q :: r) = p :: putLast c (q :: r) := rfl
    rw [e, whole_cons, whole_cons, List.length_append, List.length_append]
    refine ⟨by omega, fun x hx => ?_⟩
    rcases List.mem_append.mp hx with hx | hx
    · exact .inl (List.mem_append_left _ hx)
    · exact (h2 x hx).imp (List.mem_append_right _) id
theorem whole_new (ps : List Pc) (b : Bool) : whole (ps ++ [([], b)]) = whole ps := by rw [whole_app]; simp [whole]
theorem pstep_whole {s s' : PSt} {c : Nat} (h : pstep s c = some s') : (whole s'.ps).length ≤ (whole s.ps).length + 1 ∧ ∀ x ∈ whole s'.ps, x ∈ whole s.ps ∨ figC x = true := by
  unfold pstep at h
  split at h
  · rename_i hf
    cases h
    obtain ⟨h1, h2⟩ := whole_put c s.ps
    exact ⟨h1, fun x hx => (h2 x hx).imp id fun e => by rw [e]; exact hf⟩
  · split at h
    · cases h
    · split at h
      · split at h
        · cases h
        · cases h
          simp only [whole_new]
          exact ⟨by omega, fun x hx => .inl hx⟩
      · split at h
        · split at h
          · cases h
            simp only [whole_new]
            exact ⟨by omega, fun x hx => .inl hx⟩
          · cases h
        · cases h
          exact ⟨by omega, fun x hx => .inl hx⟩
theorem pwalk_whole : ∀ (cs : List Nat) {s s' : PSt}, pwalk cs s = some s' → (whole s'.ps).length ≤ (whole s.ps).length + cs.length ∧ ∀ x ∈ whole s'.ps, x ∈ whole s.ps ∨ figC x = true
  | [], s, s', h => by cases h; exact ⟨by simp, fun x hx => .inl hx⟩
  | c :: cs, s, s', h => by
    unfold pwalk at h
    obtain ⟨s1, h1, h2⟩ := Option.bind_eq_some_iff.mp h
    obtain ⟨a1, a2⟩ := pstep_whole h1
    obtain ⟨b1, b2⟩ := pwalk_whole cs h2
    refine ⟨by simp only [List.length_cons]; omega, fun x hx => ?_⟩
    rcases b2 x hx with h | h
    · exact a2 x h
    · exact .inr h
theorem whole_filter : ∀ ps : List Pc, whole (ps.filter fun p => !p.1.isEmpty) = whole ps
  | [] => rfl
  | (d, b) :: ps => by
    cases d with
    | nil => rw [List.filter_cons_of_neg (by simp), whole_filter ps, whole_cons]; rfl
    | cons x d => rw [List.filter_cons_of_pos (by simp), whole_cons, whole_cons, whole_filter ps]
structure QsOk (qs : List Pc) : Prop where
  len : (whole qs).length ≤ 60
  fig : ∀ x ∈ whole qs, figC x = true
  ne : ∀ q ∈ qs, q.1 ≠ []
theorem ppieces_ok {s : List Nat} {pl : Bool} {qs : List Pc} (h : ppieces s = some (pl, qs)) : QsOk qs := by
  unfold ppieces at h
  split at h
  · rename_i hl
    obtain ⟨q, h1, h2⟩ := Option.map_eq_some_iff.mp h
    cases h2
    unfold pcs at h1
    obtain ⟨st, h3, h4⟩ := Option.bind_eq_some_iff.mp h1
    split at h4
    · cases h4
      obtain ⟨a1, a2⟩ := pwalk_whole _ h3
      have hr := restL_len s
      refine ⟨?_, fun x hx => ?_, fun q hq => ?_⟩
      · rw [whole_filter]
        simp [whole] at a1
        simp [whole]
        omega
      · rw [whole_filter] at hx
        rcases a2 x hx with h | h
        · simp [whole] at h
        · exact h
      · have := (List.mem_filter.mp hq).2
        intro e
        rw [e] at this
        simp at this
    · cases h4
  · cases h
/-! ## meant -/
def meantL (b : List Land) (l : Land) (home : List Nat) (pl : Bool) (qs : List Pc) : List Num :=
  if pl = true then farL b qs 0 else [(home, whole qs)] ++ ((if l.trunk ≠ [] ∧ l.trunk.isPrefixOf (whole qs) = true then [(home, (whole qs).drop l.trunk.length)] else []) ++ if l.far.isPrefixOf (whole qs) = true then farL b qs l.far.length else [])
abbrev mS (b : List Land) (s home : List Nat) (qs : List Pc) (l : Land) (ns : List Num) : EnvS := [.val (bookD b), .val (.str s), .val (.str home), .val (.bl false), .val (.lst (qs.map pcD)), .val (Dat.d l), .val (.str (whole qs)), .own (ns.map Dat.d)]
theorem mA (b : List Land) (s home : List Nat) (qs : List Pc) (l : Land) (ns : List Num) (hn : ns.length ≤ 100) : sIf [] (bAnd (mB (m2 neD (m2 ixD (mVar 5) (mC (.int 2))) (mC (.str [])))) (mB (mS1 startsS (mVar 6) (m2 ixD (mVar 5) (mC (.int 2)))))) (sApp [] 7 (mTup (aCons (mVar 2) (aCons (mSl (mVar 6) (oSome (mCall lenF (aCons (m2 ixD (mVar 5) (mC (.int 2))) (aNil)))) (oNone)) (aNil))))) (sNil) (mS b s home qs l ns) =
    .next (mS b s home qs l (ns ++ if l.trunk ≠ [] ∧ l.trunk.isPrefixOf (whole qs) = true then [(home, (whole qs).drop l.trunk.length)] else [])) := by
  have i2 : ixD (Dat.d l) (.int 2) = .ok (.str l.trunk) := by rw [land_d]; simp
  have nt : neD (.str l.trunk) (.str []) = .ok (.bl (decide (l.trunk ≠ []))) := neD_str _ _
  have st : startsS (whole qs) (.str l.trunk) = .ok (.bl (l.trunk.isPrefixOf (whole qs))) := rfl
  have a1 := app_num (i := 7) (ρ := mS b s home qs l ns) (me := mTup (aCons (mVar 2) (aCons (mSl (mVar 6) (oSome (mCall lenF (aCons (m2 ixD (mVar 5) (mC (.int 2))) (aNil)))) (oNone)) (aNil)))) (ns := ns) (n := (home, (whole qs).drop l.trunk.length)) rfl (by simp [mS, i2, cut_from]; rfl) (by omega)
  rw [sIf_eq, freeze_nil]
  simp only [mS, vis_cons, vis_nil, visS_val, visS_own, bAnd_eq, mB_eq, mS1_eq, mVar0, mVarS, m2_eq, mC_eq, Res.bind_ok, asS_str, i2, st, nt, asB_bl]
  by_cases c1 : l.trunk = []
  · simp [c1]
  · by_cases c2 : l.trunk.isPrefixOf (whole qs) = true
    · simp only [c1, c2, ne_eq, not_false_eq_true, decide_true, if_true, and_self, Res.bind_ok, out_ok]
      rw [a1]
      simp [mS]
    · simp only [c1, c2, ne_eq, not_false_eq_true, decide_true, if_true, Res.bind_ok, out_ok]
      simp
theorem mBs {b : List Land} (hb : b.length ≤ 6) (s home : List Nat) {qs : List Pc} (Q : QsOk qs) (l : Land) (ns : List Num) (hn : ns.length ≤ 100) : sIf [] (mB (mS1 startsS (mVar 6) (m2 ixD (mVar 5) (mC (.int 1))))) (sExt [] 7 (mCall den_far_ones (aCons (mVar 0) (aCons (mVar 4) (aCons (mCall lenF (aCons (m2 ixD (mVar 5) (mC (.int 1))) (aNil))) (aNil)))))) (sNil) (mS b s home qs l ns) =
    .next (mS b s home qs l (ns ++ if l.far.isPrefixOf (whole qs) = true then farL b qs l.far.length else [])) := by
  have i1 : ixD (Dat.d l) (.int 1) = .ok (.str l.far) := by rw [land_d]; simp
  have f1 := far_d hb qs l.far.length (by have := Q.len; omega)
  have fl := farL_len b qs l.far.length
  have st : startsS (whole qs) (.str l.far) = .ok (.bl (l.far.isPrefixOf (whole qs))) := rfl
  rw [sIf_eq, freeze_nil]
  simp only [mS, vis_cons, vis_nil, visS_val, visS_own, mB_eq, mS1_eq, mVar0, mVarS, m2_eq, mC_eq, Res.bind_ok, asS_str, i1, st, asB_bl, out_ok]
  by_cases c2 : l.far.isPrefixOf (whole qs) = true
  · rw [c2, if_pos rfl, if_pos rfl]
    unfold sExt
    simp [i1, f1, LIM]
    omega
  · rw [if_neg c2, if_neg c2]
    simp
theorem meant_d {b : List Land} (hb : b.length ≤ 6) {home : List Nat} {l : Land} (hl : landOf b home = some l) {s : List Nat} (hs : TxtOk s) : den_meant [bookD b, .str s, .str home] = match ppieces s with
    | none => .stk
    | some (pl, qs) => .ok (.lst ((meantL b l home pl qs).map Dat.d)) := by
  have hp := pieces_d s hs
  cases hq : ppieces s with
  | none =>
    rw [hq] at hp
    simp only at hp
    simp [den_meant, runB, m_meant, startS, hp]
  | some z =>
    obtain ⟨pl, qs⟩ := z
    rw [hq] at hp
    simp only at hp ⊢
    have Q := ppieces_ok hq
    have ql := Q.len
    have fg := figures_d qs (by omega)
    have f0 := far_d hb qs 0 (by omega)
    have lo := land_of_d b home
    rw [hl] at lo
    simp only [optD_some] at lo
    cases pl with
    | true =>
      have f0' : den_far_ones [bookD b, .lst (qs.map pcD), .int 0] = .ok (.lst ((farL b qs 0).map Dat.d)) := f0
      simp [den_meant, runB, m_meant, startS, hp, f0', meantL]
    | false =>
      have fl : isFlat (Dat.d l) = false := rfl
      have e1 := mA b s home qs l [(home, whole qs)] (by simp)
      generalize hA : [(home, whole qs)] ++ (if l.trunk ≠ [] ∧ l.trunk.isPrefixOf (whole qs) = true then [(home, (whole qs).drop l.trunk.length)] else []) = nA at e1
      have hnA : nA.length ≤ 100 := by rw [← hA]; split <;> simp
      have e2 := mBs hb s home Q l nA hnA
      generalize hB : nA ++ (if l.far.isPrefixOf (whole qs) = true then farL b qs l.far.length else []) = nB at e2
      have eL : meantL b l home false qs = nB := by
        unfold meantL
        rw [if_neg (by simp), ← List.append_assoc, hA, hB]
      have fz : freeze [7] (mS b s home qs l nB) = [.val (bookD b), .val (.str s), .val (.str home), .val (.bl false), .val (.lst (qs.map pcD)), .val (Dat.d l), .val (.str (whole qs)), .val (.lst (nB.map Dat.d))] := by
        rw [freeze_own rfl]; simp [mS]
      have s0 : (mS b s home qs l [(home, whole qs)]) = [.val (bookD b), .val (.str s), .val (.str home), .val (.bl false), .val (.lst (qs.map pcD)), .val (Dat.d l), .val (.str (whole qs)), .own [.tup [.str home, .str (whole qs)]]] := rfl
      rw [s0] at e1
      rw [eL]
      simp only [den_meant, runB, m_meant, List.length_cons, List.length_nil, if_true, Nat.reduceAdd]
      generalize (sIf [] (bAnd (mB (m2 neD (m2 ixD (mVar 5) (mC (.int 2))) (mC (.str [])))) (mB (mS1 startsS (mVar 6) (m2 ixD (mVar 5) (mC (.int 2)))))) (sApp [] 7 (mTup (aCons (mVar 2) (aCons (mSl (mVar 6) (oSome (mCall lenF (aCons (m2 ixD (mVar 5) (mC (.int 2))) (aNil)))) (oNone)) (aNil))))) (sNil)) = tA at e1 ⊢
      generalize (sIf [] (mB (mS1 startsS (mVar 6) (m2 ixD (mVar 5) (mC (.int 1))))) (sExt [] 7 (mCall den_far_ones (aCons (mVar 0) (aCons (mVar 4) (aCons (mCall lenF (aCons (m2 ixD (mVar 5) (mC (.int 1))) (aNil))) (aNil)))))) (sNil)) = tB at e2 ⊢
      simp [startS, hp, lo, fg, sPar, fl]
      rw [e1]
      simp only [seq_next]
      rw [sSeq_eq, e2]
      simp [fz]
end DL
namespace DL
/-! ## numbers, sorted, each once -/
def keyN (n : Num) : List L2.Key := [.inr ⟨n.1.toArray⟩, .inr ⟨n.2.toArray⟩]
theorem keyN_d (n : Num) : tupD (keyN n) = Dat.d n := by
  simp [tupD, keyN, keyD, num_d]
theorem keyN_inj {a b : Num} (h : keyN a = keyN b) : a = b := by
  obtain ⟨a1, a2⟩ := a
  obtain ⟨b1, b2⟩ := b
  simp [keyN] at h
  rw [h.1, h.2]
theorem dN_inj {a b : Num} (h : (Dat.d a : D) = Dat.d b) : a = b := keyN_inj (tupD_inj (by rw [keyN_d, keyN_d, h]))
theorem tupsKs_num (ns : List Num) : tupsKs (ns.map Dat.d) = some (ns.map keyN) := by
  induction ns with
  | nil => rfl
  | cons n ns ih => simp [tupsKs, ih, num_d, tupKs, kDs, kD, keyN]
theorem nub_map {α β : Type} [DecidableEq α] [DecidableEq β] (f : α → β) (inj : ∀ a b, f a = f b → a = b) : ∀ l : List α, nub (l.map f) = (nub l).map f
  | [] => rfl
  | x :: l => by
    rw [List.map_cons]
    unfold nub
    have e : f x ∈ l.map f ↔ x ∈ l := ⟨fun h => by
      obtain ⟨y, h1, h2⟩ := List.mem_map.mp h
      rw [← inj _ _ h2]; exact h1, fun h => List.mem_map_of_mem h⟩
    by_cases c : x ∈ l
    · rw [if_pos c, if_pos (e.mpr c), nub_map f inj l]
    · rw [if_neg c, if_neg (fun z => c (e.mp z)), nub_map f inj l, List.map_cons]
def leN (a b : Num) : Bool := leQ (Dat.d a) (Dat.d b)
def sortN (ns : List Num) : List Num := (nub ns).mergeSort leN
theorem leN_anti {a b : Num} (h1 : leN a b = true) (h2 : leN b a = true) : a = b := by
  have := leQ_anti h1 h2
  rw [← keyN_d, ← keyN_d] at this
  exact keyN_inj (toks_tup_inj this)
theorem sortN_sorted (ns : List Num) : (sortN ns).Pairwise fun a b => leN a b = true := List.pairwise_mergeSort (le := leN) (fun a b c h1 h2 => leQ_trans (Dat.d a) (Dat.d b) (Dat.d c) h1 h2) (fun a b => leQ_total (Dat.d a) (Dat.d b)) _
theorem mem_sortN {ns : List Num} {n : Num} : n ∈ sortN ns ↔ n ∈ ns := by
  unfold sortN
  rw [List.mem_mergeSort, mem_nub]
theorem sortN_nodup (ns : List Num) : (sortN ns).Nodup := (List.mergeSort_perm _ _).nodup_iff.mpr (nodup_nub ns)
/-- sorted lists of the same members are the same -/
theorem sorted_ext {a b : List Num} (ha : a.Pairwise fun x y => leN x y = true) (hb : b.Pairwise fun x y => leN x y = true) (na : a.Nodup) (nb : b.Nodup) (h : ∀ x, x ∈ a ↔ x ∈ b) : a = b :=
  List.Perm.eq_of_pairwise (le := fun x y => leN x y = true) (fun x y _ _ h1 h2 => leN_anti h1 h2) ha hb ((List.perm_ext_iff_of_nodup na nb).mpr h)
theorem sortN_congr {ns ms : List Num} (h : ∀ x, x ∈ ns ↔ x ∈ ms) : sortN ns = sortN ms := sorted_ext (sortN_sorted ns) (sortN_sorted ms) (sortN_nodup ns) (sortN_nodup ms) fun x => by rw [mem_sortN, mem_sortN]; exact h x
theorem sortN_filter (p : Num → Bool) (ns : List Num) : (sortN ns).filter p = sortN (ns.filter p) := sorted_ext ((sortN_sorted ns).filter p) (sortN_sorted _) ((sortN_nodup ns).filter p) (sortN_nodup _) fun x => by
  rw [List.mem_filter, mem_sortN, mem_sortN, List.mem_filter]
theorem sortOk_num (ns : List Num) : sortOkB (ns.map Dat.d) = true := by
  have h1 : alikeD (ns.map Dat.d) = true := by
    unfold alikeD
    rw [List.all_eq_true]
    intro d hd
    obtain ⟨x, _, rfl⟩ := List.mem_map.mp hd
    rw [List.all_eq_true]
    intro d hd
    obtain ⟨y, _, rfl⟩ := List.mem_map.mp hd
    simp [num_d, D.toPy, toPys, PySem.W.alike, PySem.W.alikeAll]
  have h2 : (ns.map Dat.d).all isTup1 = true := by
    rw [List.all_eq_true]
    intro d hd
    obtain ⟨x, _, rfl⟩ := List.mem_map.mp hd
    rfl
  have h3 := rks_map ns
  simp only [Dat.r] at h3
  unfold sortOkB
  simp only [h1, h2, Bool.true_or, Bool.true_and, decide_eq_true_eq]
  omega
theorem sortSet_num (ns : List Num) (h : ns.length < 64) : sortSetF [.lst (ns.map Dat.d)] = .ok (.lst ((sortN ns).map Dat.d)) := by
  have e1 : (nub (ns.map keyN)).map tupD = (nub ns).map Dat.d := by
    rw [nub_map keyN (fun a b h => keyN_inj h), List.map_map]
    exact List.map_congr_left fun n _ => keyN_d n
  have e2 : ((nub ns).map Dat.d).mergeSort leQ = (sortN ns).map Dat.d := (List.map_mergeSort (r := leN) (s := leQ) (f := Dat.d) (l := nub ns) fun a _ b _ => rfl).symm
  show (oR (tupsKs (ns.map Dat.d))).bind (fun ks => if ks.length < 64 ∧ sortOkB ((nub ks).map tupD) = true then Res.ok (D.lst (((nub ks).map tupD).mergeSort leQ)) else .stk) = _
  rw [tupsKs_num]
  simp only [oR_some, Res.bind_ok, List.length_map]
  rw [e1, if_pos ⟨h, sortOk_num _⟩, e2]
/-! ## readings -/
theorem meantL_len {b : List Land} (hb : b.length ≤ 6) (l : Land) (home : List Nat) (pl : Bool) (qs : List Pc) : (meantL b l home pl qs).length < 64 := by
  have h0 := farL_len b qs 0
  have h1 := farL_len b qs l.far.length
  unfold meantL
  split
  · omega
  · rw [List.length_append, List.length_append]
    split <;> split <;> simp <;> omega
def readL (b : List Land) (l : Land) (home : List Nat) (pl : Bool) (qs : List Pc) : List Num := (sortN (meantL b l home pl qs)).filter (numB b)
theorem readings_of_d {b : List Land} (hb : b.length ≤ 6) {home : List Nat} {l : Land} (hl : landOf b home = some l) {s : List Nat} (hs : TxtOk s) : den_readings_of [bookD b, .str s, .str home] = match ppieces s with
    | none => .stk
    | some (pl, qs) => .ok (.lst ((readL b l home pl qs).map Dat.d)) := by
  have hm := meant_d hb hl hs
  cases hq : ppieces s with
  | none =>
    rw [hq] at hm
    simp only at hm
    simp [den_readings_of, runB, m_readings_of, startS, hm]
  | some z =>
    obtain ⟨pl, qs⟩ := z
    rw [hq] at hm
    simp only at hm ⊢
    have sn := sortSet_num _ (meantL_len hb l home pl qs)
    simp [den_readings_of, runB, m_readings_of, startS, hm, sn]
    rw [lcG_map Dat.d (numB b) Dat.d (sortN (meantL b l home pl qs)) fun n hn => ⟨_, bindT_nm, by simp [has_number_d], by simp⟩]
    simp [readL]
end DL
namespace DL
/-! ## readings: the law's own, on data -/
theorem cut_mid {α : Type} (xs : List α) (a b : Nat) (h : a ≤ b) : cutL xs (some (a : Int)) (some (b : Int)) = (xs.drop a).take (b - a) := by
  unfold cutL
  simp only [HT.sIx]
  rw [if_neg (by omega), if_neg (by omega)]
  simp only [Int.toNat_natCast]
  rcases Nat.le_total a xs.length with ha | ha
  · rw [Nat.min_eq_left ha]
    rcases Nat.le_total b xs.length with hb | hb
    · rw [Nat.min_eq_left hb]
    · rw [Nat.min_eq_right hb, List.take_of_length_le (by simp), List.take_of_length_le (by simp; omega)]
  · rw [Nat.min_eq_right ha, List.drop_eq_nil_of_le (Nat.le_refl _), List.drop_eq_nil_of_le ha]
    simp
def natsD (l : List Nat) : List D := l.map fun x => .int (x : Nat)
theorem natsD_eq (l : List Nat) : natsD l = (l.map fun x : Nat => (x : Int)).map Dat.d := by
  unfold natsD
  rw [List.map_map]; rfl
theorem cast_inj : ∀ a b : List Nat, (a.map fun x : Nat => (x : Int)) = (b.map fun x : Nat => (x : Int)) → a = b
  | [], [], _ => rfl
  | [], _ :: _, h => by simp at h
  | _ :: _, [], h => by simp at h
  | x :: a, y :: b, h => by
    simp only [List.map_cons, List.cons.injEq] at h
    rw [cast_inj a b h.2, show x = y by omega]
theorem mul_one (d : D) (n : Nat) (h : n ≤ 1000) : mulD (.lst [d]) (.int (n : Nat)) = .ok (.lst (List.replicate n d)) := by
  have h1 : (-(LIM : Nat) : Int) ≤ (n : Nat) ∧ ((n : Nat) : Int) ≤ (LIM : Nat) ∧ ([d] : List D).length * ((n : Nat) : Int).toNat ≤ LIM := by
    have : LIM = 1000000 := rfl
    rw [this]
    simp only [List.length_cons, List.length_nil, Int.toNat_natCast]
    omega
  rw [mul_lst, if_pos h1, Int.toNat_natCast, List.flatten_replicate_singleton]
theorem nats_eq (a b : List Nat) : eqD (.lst (natsD a)) (.lst (natsD b)) = .ok (.bl (decide (a = b))) := by
  rw [natsD_eq, natsD_eq, eqD_of (rk_map _) (rk_map _), eqv_lst]
  have := eqvL_map (a.map fun x : Nat => (x : Int)) (b.map fun x : Nat => (x : Int))
  congr 2
  rw [Bool.eq_iff_iff, this, decide_eq_true_eq]
  exact ⟨cast_inj a b, fun h => by rw [h]⟩
theorem nats_notIn (x : Nat) (b : List Nat) : notInD (.int (x : Nat)) (.lst (natsD b)) = .ok (.bl (decide (x ∉ b))) := by
  have h := inD_dat (x : Int) (b.map fun x : Nat => (x : Int))
  rw [← natsD_eq] at h
  have e : decide ((x : Int) ∈ b.map fun x : Nat => (x : Int)) = decide (x ∈ b) := by
    congr 1
    rw [List.mem_map]
    refine propext ⟨fun ⟨y, h1, h2⟩ => ?_, fun h => ⟨x, h, rfl⟩⟩
    have : y = x := by omega
    exact this ▸ h1
  rw [e] at h
  have h' : inD (.int (x : Nat)) (.lst (natsD b)) = .ok (.bl (decide (x ∈ b))) := h
  rw [notIn_eq, h']
  simp
end DL
namespace DL
/-! ## the drawn text -/
@[simp] theorem enumSF_str {s : List Nat} : enumSF [.str s] = .ok (enumFrom 0 (s.map fun c => .str [c])) := rfl
def ShortT (n : Nat) (s : List Nat) : Prop := s.length ≤ n ∧ ∀ c ∈ s, c < 1000
theorem ShortT.app {a b n : Nat} {s t : List Nat} (h : ShortT a s) (h' : ShortT b t) (e : a + b ≤ n) : ShortT n (s ++ t) := by
  refine ⟨?_, fun c hc => ?_⟩
  · rw [List.length_append]; have := h.1; have := h'.1; omega
  · rcases List.mem_append.mp hc with q | q
    · exact h.2 c q
    · exact h'.2 c q
theorem ShortT.mono {a b : Nat} {s : List Nat} (h : ShortT a s) (e : a ≤ b) : ShortT b s := ⟨Nat.le_trans h.1 e, h.2⟩
theorem ShortT.txt {a : Nat} {s : List Nat} (h : ShortT a s) (e : a ≤ 10000) : TxtOk s := ⟨Nat.le_trans h.1 e, h.2⟩
theorem figB_lt {c : Nat} (h : figB c = true) : c < 1000 := by
  unfold figB at h
  simp at h
  omega
theorem figs_short {s : List Nat} {lo hi : Int} {n : Nat} (h : figs s lo hi = true) (e : hi ≤ n) : ShortT n s := by
  unfold figs at h
  simp only [Bool.and_eq_true, decide_eq_true_eq, List.all_eq_true] at h
  exact ⟨by omega, fun c hc => figB_lt (h.2.2 c hc)⟩
theorem pickS {ds : List D} {n : Nat} (l : List (List Nat)) (e : ds = l.map .str) (hl : ∀ s ∈ l, ShortT n s) {i : Int} (h0 : 0 ≤ i) (h : i < l.length) : ∃ s, ixD (.lst ds) (.int i) = .ok (.str s) ∧ ShortT n s := by
  obtain ⟨x, hx, e'⟩ := pickD D.str l h0 h
  exact ⟨x, by rw [e]; exact e', hl x hx⟩
theorem flag_mul (s : List Nat) (b : Bool) (h : s.length ≤ 1000) : mulD (.str s) (.int (if b = true then 1 else 0)) = .ok (.str (if b = true then s else [])) := by
  cases b with
  | true =>
    have h1 : (-(LIM : Nat) : Int) ≤ 1 ∧ (1 : Int) ≤ (LIM : Nat) ∧ s.length * (1 : Int).toNat ≤ LIM := by
      have : LIM = 1000000 := rfl
      rw [this]
      simp
      omega
    show mulD (.str s) (.int 1) = _
    rw [mul_str, if_pos h1]
    simp [repS]
  | false =>
    have h1 : (-(LIM : Nat) : Int) ≤ 0 ∧ (0 : Int) ≤ (LIM : Nat) ∧ s.length * (0 : Int).toNat ≤ LIM := by
      have : LIM = 1000000 := rfl
      rw [this]
      simp
    show mulD (.str s) (.int 0) = _
    rw [mul_str, if_pos h1]
    simp [repS]
theorem int_flag (b : Bool) : intF [.bl b] = .ok (.int (if b = true then 1 else 0)) := rfl
theorem landB_all {l : Land} (h : landB l = true) : ShortT 3 l.code ∧ ShortT 4 l.far ∧ ShortT 2 l.trunk := by
  unfold landB at h
  simp only [Bool.and_eq_true] at h
  exact ⟨figs_short h.1 (by decide), figs_short h.2.2.1 (by decide), figs_short h.2.2.2.1 (by decide)⟩
theorem st_nil {n : Nat} : ShortT n [] := ⟨Nat.zero_le _, by simp⟩
theorem add_short {s t : List Nat} {a b : Nat} (h : ShortT a s) (h' : ShortT b t) (e : a + b ≤ 1000000 := by decide) : addD (.str s) (.str t) = .ok (.str (s ++ t)) := by
  have h1 := h.1
  have h2 := h'.1
  rw [add_str, if_pos (by omega)]
theorem fdiv_m {i j : Int} (h : 0 < j := by decide) (h2 : j.natAbs < 2 ^ 100 := by decide) : fdivD (.int i) (.int j) = .ok (.int (i / j)) := fdiv_ok h h2
theorem landOf_in {b : List Land} {c : List Nat} {l : Land} (h : landOf b c = some l) : l ∈ b := by
  unfold landOf at h
  exact List.mem_of_find?_eq_some h
theorem few_of {b : List Land} (hb : BookOk b) : b.length ≤ 6 := by
  have := hb.ok
  unfold bookB at this
  simp only [Bool.and_eq_true, decide_eq_true_eq] at this
  exact this.1.2
end DL
namespace DL
theorem need_land_ok {b : List Land} (hb : BookOk b) {l : Land} {home : List Nat} (hl : landOf b home = some l) : den_need_land [bookD b, .str home] = .ok .non := by
  have nb := need_book_ok hb.ok
  have lo := land_of_d b home
  rw [hl] at lo
  simp [den_need_land, runB, m_need_land, startS, nb, lo, isiB]
  rw [land_d]
  simp
theorem need_land_no {b : List Land} (hb : BookOk b) {home : List Nat} (hl : landOf b home = none) : den_need_land [bookD b, .str home] = .stk := by
  have nb := need_book_ok hb.ok
  have lo := land_of_d b home
  rw [hl] at lo
  simp [den_need_land, runB, m_need_land, startS, nb, lo, isiB]
theorem land_0 {b : List Land} (hb : BookOk b) : landOf b [48] = none := by
  unfold landOf
  rw [List.find?_eq_none]
  intro l hl
  have h := book_land hb hl
  simp only [decide_eq_true_eq]
  intro e
  unfold landB at h
  rw [e] at h
  simp at h
theorem readings_d {b : List Land} (hb : BookOk b) {l : Land} {home : List Nat} (hl : landOf b home = some l) {s : List Nat} (hs : TxtOk s) : den_readings [bookD b, .str s, .str home] = match ppieces s with
    | none => .stk
    | some (pl, qs) => .ok (.lst ((readL b l home pl qs).map Dat.d)) := by
  have few : b.length ≤ 6 := by
    have := hb.ok
    unfold bookB at this
    simp only [Bool.and_eq_true, decide_eq_true_eq] at this
    exact this.1.2
  have nl := need_land_ok hb hl
  have r := readings_of_d few hl hs
  refine Eq.trans ?_ r
  have : den_readings [bookD b, .str s, .str home] = toRes ((den_readings_of [bookD b, .str s, .str home]).out fun d => .ret d) := by
    simp [den_readings, runB, m_readings, startS, nl]
  rw [this]
  cases den_readings_of [bookD b, .str s, .str home] <;> rfl
theorem land_pick {b : List Land} (hb : BookOk b) (m : Int) : ∃ l ∈ b, modD (.int m) (.int (b.length : Int)) = .ok (.int (m % (b.length : Int))) ∧ ixD (bookD b) (.int (m % (b.length : Int))) = .ok (Dat.d l) := by
  have hlen : 1 ≤ b.length ∧ b.length ≤ 6 := by
    have := hb.ok
    unfold bookB at this
    simp only [Bool.and_eq_true, decide_eq_true_eq] at this
    exact this.1
  have q := mod_bd m (j := (b.length : Int)) (by omega)
  refine ⟨b[(m % (b.length : Int)).toNat]'(by omega), List.getElem_mem _, mod_ok (by omega), ?_⟩
  unfold bookD
  rw [ix_tup (atI_pos _ q.1 (by rw [List.length_map]; exact q.2))]
  simp
end DL
namespace DL
/-! ## texts of figures and signs between: their pieces -/
def sepC (c : Nat) : Bool := decide (c ∈ [32, 45, 46, 47])
theorem strip_same {c : Nat} {t : List Nat} (h : c ≠ 32) (h2 : ∀ d, (c :: t).getLast? = some d → d ≠ 32) : stripL (c :: t) [32] = c :: t := by
  have hb : ∀ d : Nat, (⟨([32] : List Nat).toArray⟩ : PySem.Str).cps.contains d = decide (d = 32) := fun d => by simp
  have e1 : PySem.stripLo (⟨([32] : List Nat).toArray⟩ : PySem.Str).cps.contains true ⟨(c :: t).toArray⟩ = 0 := by
    show (List.takeWhile _ (c :: t)).length = 0
    rw [List.takeWhile_cons, hb]
    simp [h]
  have e2 : PySem.stripHi (⟨([32] : List Nat).toArray⟩ : PySem.Str).cps.contains true ⟨(c :: t).toArray⟩ 0 = (⟨(c :: t).toArray⟩ : PySem.Str).length := by
    show (⟨(c :: t).toArray⟩ : PySem.Str).length - (List.takeWhile _ ((c :: t).drop 0).reverse).length = _
    rw [List.drop_zero]
    have e3 : (List.takeWhile (⟨([32] : List Nat).toArray⟩ : PySem.Str).cps.contains (c :: t).reverse).length = 0 := by
      cases hr : (c :: t).reverse with
      | nil => rfl
      | cons d r =>
        have hd : (c :: t).getLast? = some d := by rw [← List.head?_reverse, hr]; rfl
        rw [List.takeWhile_cons, hb]
        simp [h2 d hd]
    rw [e3]
    omega
  unfold stripL PySem.Txt.stripChars PySem.Txt.stripBy
  rw [if_pos (by unfold PySem.stripSame; rw [e1, e2]; simp)]
theorem sep_not {c : Nat} (h : sepC c = true) : figC c = false ∧ btwC c = true ∧ c ≠ 40 ∧ c ≠ 41 := by
  unfold sepC at h
  simp at h
  rcases h with rfl | rfl | rfl | rfl <;> decide
theorem fig_not {c : Nat} (h : figC c = true) : c ≠ 40 ∧ c ≠ 41 ∧ c ≠ 32 ∧ c ≠ 43 := by
  unfold figC at h
  simp at h
  omega
theorem pwalk_run : ∀ (s : List Nat) (ps : List Pc) (d : List Nat) (k op : Bool), (∀ c ∈ s, figC c = true ∨ sepC c = true) → pwalk s ⟨ps ++ [(d, k)], op⟩ = some ⟨ps ++ [(d ++ s.filter figC, k)], op⟩
  | [], ps, d, k, op, _ => by simp [pwalk]
  | c :: s, ps, d, k, op, h => by
    have ih := fun d => pwalk_run s ps d k op fun x hx => h x (List.mem_cons_of_mem _ hx)
    unfold pwalk
    rcases h c List.mem_cons_self with hc | hc
    · have e : pstep ⟨ps ++ [(d, k)], op⟩ c = some ⟨ps ++ [(d ++ [c], k)], op⟩ := by
        unfold pstep
        rw [if_pos hc, putLast_snoc]
      rw [e, Option.bind_some, ih, List.filter_cons_of_pos hc]
      simp
    · obtain ⟨h1, h2, h3, h4⟩ := sep_not hc
      have e : pstep ⟨ps ++ [(d, k)], op⟩ c = some ⟨ps ++ [(d, k)], op⟩ := by
        unfold pstep
        rw [if_neg (by simp [h1]), if_neg (by simp [h2]), if_neg h3, if_neg h4]
      rw [e, Option.bind_some, ih, List.filter_cons_of_neg (by simp [h1])]
theorem pwalk_app : ∀ (s t : List Nat) (z : PSt), pwalk (s ++ t) z = (pwalk s z).bind (pwalk t)
  | [], t, z => rfl
  | c :: s, t, z => by
    show (pstep z c).bind (pwalk (s ++ t)) = ((pstep z c).bind (pwalk s)).bind (pwalk t)
    cases pstep z c with
    | none => rfl
    | some z' => exact pwalk_app s t z'
theorem pcs_run {s : List Nat} (h : ∀ c ∈ s, figC c = true ∨ sepC c = true) (hne : s.filter figC ≠ []) : pcs s = some [(s.filter figC, false)] := by
  have e := pwalk_run s [] [] false false h
  unfold pcs
  simp only [List.nil_append] at e
  rw [e, Option.bind_some]
  generalize s.filter figC = f at hne
  cases f with
  | nil => exact absurd rfl hne
  | cons a r => rfl
/-- figures with signs between: begins with a figure, ends with one -/
structure RunT (f s : List Nat) : Prop where
  figs : s.filter figC = f
  runs : ∀ c ∈ s, figC c = true ∨ sepC c = true
  head : ∃ c t, s = c :: t ∧ figC c = true
  last : ∀ d, s.getLast? = some d → figC d = true
theorem RunT.ne {f s : List Nat} (h : RunT f s) : f ≠ [] := by
  obtain ⟨c, t, e, hc⟩ := h.head
  rw [← h.figs, e, List.filter_cons_of_pos hc]
  simp
theorem runT_self {f : List Nat} (h : f.all figC = true) (hne : f ≠ []) : RunT f f := by
  have h' := List.all_eq_true.mp h
  refine ⟨List.filter_eq_self.mpr h', fun c hc => .inl (h' c hc), ?_, fun d hd => h' d (List.mem_of_getLast? hd)⟩
  cases f with
  | nil => exact absurd rfl hne
  | cons c t => exact ⟨c, t, rfl, h' c List.mem_cons_self⟩
theorem RunT.pieces {f s : List Nat} (h : RunT f s) (hl : s.length ≤ 60) : ppieces s = some (false, [(f, false)]) := by
  obtain ⟨c, t, rfl, hc⟩ := h.head
  have st : stripL (c :: t) [32] = c :: t := strip_same (fig_not hc).2.2.1 fun d hd => (fig_not (h.last d hd)).2.2.1
  have pl : plusB (c :: t) = false := by
    unfold plusB
    rw [st]
    have := (fig_not hc).2.2.2
    simp [this]
  unfold ppieces restL
  rw [if_pos hl, pl, st, if_neg (by decide), pcs_run h.runs (by rw [h.figs]; exact h.ne), h.figs]
  rfl
theorem RunT.plus {f s : List Nat} (h : RunT f s) (hl : s.length ≤ 59) : ppieces (43 :: s) = some (true, [(f, false)]) := by
  have st : stripL (43 :: s) [32] = 43 :: s := strip_same (by decide) fun d hd => by
    obtain ⟨c, t, rfl, hc⟩ := h.head
    rw [List.getLast?_cons_cons] at hd
    exact (fig_not (h.last d hd)).2.2.1
  have pl : plusB (43 :: s) = true := by
    unfold plusB
    rw [st]
    rfl
  unfold ppieces restL
  rw [if_pos (by simp; omega), pl, st, if_pos rfl]
  show (pcs s).map _ = _
  rw [pcs_run h.runs (by rw [h.figs]; exact h.ne), h.figs]
  rfl
/-- all of them in brackets -/
theorem RunT.brackets {f s : List Nat} (h : RunT f s) (hl : s.length ≤ 58) : ppieces ([40] ++ s ++ [41]) = some (false, [(f, true)]) := by
  have st : stripL (40 :: (s ++ [41])) [32] = 40 :: (s ++ [41]) := strip_same (by decide) fun d hd => by
    have : (40 :: (s ++ [41]) : List Nat).getLast? = some 41 := by
      rw [show (40 :: (s ++ [41]) : List Nat) = (40 :: s) ++ [41] from rfl]
      exact List.getLast?_concat ..
    rw [this] at hd
    cases hd
    decide
  have pl : plusB (40 :: (s ++ [41])) = false := by
    unfold plusB
    rw [st]
    rfl
  have e : ([40] ++ s ++ [41] : List Nat) = 40 :: (s ++ [41]) := by simp
  rw [e]
  unfold ppieces restL
  rw [if_pos (by simp; omega), pl, st, if_neg (by decide)]
  have w1 : pwalk (40 :: (s ++ [41])) ⟨[([], false)], false⟩ = pwalk (s ++ [41]) ⟨[([], false)] ++ [([], true)], true⟩ := rfl
  have w2 := pwalk_run s [([], false)] [] true true h.runs
  have w3 : pwalk [41] ⟨[([], false)] ++ [([] ++ s.filter figC, true)], true⟩ = some ⟨[([], false), (f, true), ([], false)], false⟩ := by
    rw [h.figs]
    have hne := h.ne
    simp [pwalk, pstep, figC, btwC, lastP, hne]
  have w : pcs (40 :: (s ++ [41])) = some [(f, true)] := by
    unfold pcs
    rw [w1, pwalk_app, w2, Option.bind_some, w3, Option.bind_some]
    have hne := h.ne
    cases f with
    | nil => exact absurd rfl hne
    | cons a r => rfl
  rw [w]
  rfl
/-! ## the brackets around all of them change nothing -/
theorem wo_one (f : List Nat) (k : Bool) (skip : Nat) (t : List Nat) (h : 0 < skip) : wo [(f, k)] skip t = f.drop skip := by
  unfold wo woGo
  rw [if_neg (by omega)]
  show (none : Option (List Nat)).getD _ = _
  simp [whole]
theorem far_one (b : List Land) (f : List Nat) (k : Bool) (skip : Nat) (hb : ∀ l ∈ b, l.code ≠ []) : farL b [(f, k)] skip = farL b [(f, false)] skip := by
  unfold farL
  induction b with
  | nil => rfl
  | cons l b ih =>
    rw [List.flatMap_cons, List.flatMap_cons, ih fun x hx => hb x (List.mem_cons_of_mem _ hx)]
    congr 1
    have hc : 0 < l.code.length := List.length_pos_iff.mpr (hb l List.mem_cons_self)
    unfold farOne
    have e : whole [(f, k)] = whole [(f, false)] := rfl
    rw [e, wo_one f k _ _ (by omega), wo_one f false _ _ (by omega)]
theorem code_ne {b : List Land} (hb : BookOk b) {l : Land} (hl : l ∈ b) : l.code ≠ [] := by
  have h := book_land hb hl
  unfold landB at h
  simp only [Bool.and_eq_true] at h
  have := h.1
  unfold figs at this
  simp only [Bool.and_eq_true, decide_eq_true_eq] at this
  intro e
  rw [e] at this
  simp at this
theorem read_one {b : List Land} (hb : BookOk b) (l : Land) (home f : List Nat) (k : Bool) : readL b l home false [(f, k)] = readL b l home false [(f, false)] := by
  unfold readL meantL
  have e : whole [(f, k)] = whole [(f, false)] := rfl
  rw [e, far_one b f k l.far.length fun l hl => code_ne hb hl]
  rfl
/-! ## a number behind a plus is among what is meant -/
theorem far_has {b : List Land} (hb : BookOk b) {n : Num} (hn : numB b n = true) (l : Land) (home : List Nat) (k : Bool) : n ∈ readL b l home true [(n.1 ++ n.2, k)] := by
  unfold readL
  rw [List.mem_filter, mem_sortN]
  refine ⟨?_, hn⟩
  obtain ⟨ln, hln⟩ : ∃ ln, landOf b n.1 = some ln := by
    unfold numB at hn
    cases h : landOf b n.1 with
    | none => rw [h] at hn; cases hn
    | some ln => exact ⟨ln, rfl⟩
  have hc : ln.code = n.1 := by
    unfold landOf at hln
    simpa using List.find?_some hln
  unfold meantL
  rw [if_pos rfl]
  unfold farL
  rw [List.mem_flatMap]
  refine ⟨ln, landOf_in hln, ?_⟩
  unfold farOne
  have e : whole [(n.1 ++ n.2, k)] = n.1 ++ n.2 := by simp [whole]
  rw [e, hc, List.drop_zero, if_pos (by simp)]
  simp
end DL
namespace DL
/-! ## numbers written, dialled: on data -/
theorem need_num {b : List Land} (hb : bookB b = true) {n : Num} (h : numB b n = true) : den_need_number [bookD b, Dat.d n] = .ok .non := by
  simp [den_need_number, runB, m_need_number, startS, need_book_ok hb, has_number_d, h]
theorem eq_str (s t : List Nat) : eqD (.str s) (.str t) = .ok (.bl (decide (s = t))) := eqD_dat (α := List Nat) s t
/-- what a right number has -/
theorem num_parts {b : List Land} (hb : BookOk b) {n : Num} (hn : numB b n = true) : ∃ ln r, landOf b n.1 = some ln ∧ ln ∈ b ∧ ln.code = n.1 ∧ rowOf ln.rows n.2 = some r ∧ rowB r = true ∧ n.2.length ≤ 12 ∧ 3 ≤ n.2.length ∧ n.2.all figB = true := by
  unfold numB at hn
  cases h : landOf b n.1 with
  | none => rw [h] at hn; cases hn
  | some ln =>
    rw [h] at hn
    simp only [Bool.and_eq_true] at hn
    obtain ⟨h1, h2⟩ := hn
    obtain ⟨r, hr⟩ := Option.isSome_iff_exists.mp h2
    have hl := landOf_in h
    have hc : ln.code = n.1 := by
      unfold landOf at h
      simpa using List.find?_some h
    have hrow : r ∈ ln.rows := by
      have key : ∀ (rows : List Row) (best : Option Row), rows.foldl (rowStep n.2) best = some r → best = some r ∨ r ∈ rows := by
        intro rows
        induction rows with
        | nil => intro best h; exact .inl h
        | cons x rows ih =>
          intro best h
          rcases ih _ h with h | h
          · unfold rowStep at h
            split at h
            · exact .inr (by cases h; exact List.mem_cons_self)
            · exact .inl h
          · exact .inr (List.mem_cons_of_mem _ h)
      rcases key ln.rows none hr with h | h
      · cases h
      · exact h
    obtain ⟨_, _, hrows, _⟩ := land_rows (book_land hb hl)
    unfold figs at h1
    simp only [Bool.and_eq_true, decide_eq_true_eq] at h1
    exact ⟨ln, r, rfl, hl, hc, hr, hrows r hrow, by omega, by omega, h1.2.2⟩
/-- digits in groups -/
def cutG (s : List Nat) : List Int → Nat → List (List Nat)
  | [], _ => []
  | g :: gs, k => (s.drop k).take g.toNat :: cutG s gs (k + g.toNat)
theorem cutG_len (s : List Nat) : ∀ (gs : List Int) (k : Nat), (cutG s gs k).length = gs.length
  | [], _ => rfl
  | g :: gs, k => by simp [cutG, cutG_len s gs]
theorem cutG_mem {s : List Nat} : ∀ {gs : List Int} {k : Nat}, ∀ x ∈ cutG s gs k, x.length ≤ s.length ∧ ∀ c ∈ x, c ∈ s
  | g :: gs, k, x, hx => by
    rcases List.mem_cons.mp hx with rfl | hx
    · refine ⟨?_, fun c hc => List.mem_of_mem_drop (List.mem_of_mem_take hc)⟩
      rw [List.length_take, List.length_drop]; omega
    · exact cutG_mem x hx
theorem groups_few {r : Row} (h : rowB r = true) : r.groups.length ≤ 12 ∧ (∀ g ∈ r.groups, 1 ≤ g) ∧ r.groups.sum = r.size ∧ r.groups ≠ [] := by
  have hs := (rowB_size h).1
  unfold rowB at h
  simp only [Bool.and_eq_true, decide_eq_true_eq, List.all_eq_true] at h
  obtain ⟨_, _, _, h4, h5, h6⟩ := h
  have h1 : ∀ g ∈ r.groups, 1 ≤ g := fun g hg => by
    have := h5 g hg
    unfold cntB at this
    simp only [Bool.and_eq_true, decide_eq_true_eq] at this
    exact this.1
  refine ⟨?_, h1, h6, h4⟩
  have key : ∀ l : List Int, (∀ g ∈ l, 1 ≤ g) → (l.length : Int) ≤ l.sum := by
    intro l
    induction l with
    | nil => intro _; simp
    | cons x l ih =>
      intro h
      have := ih fun g hg => h g (List.mem_cons_of_mem _ hg)
      have := h x List.mem_cons_self
      simp only [List.length_cons, List.sum_cons]
      omega
  have := key _ h1
  omega
theorem gr_loop (l : D) (s : List Nat) : ∀ (gs : List Int) (k : Nat) (acc : List (List Nat)) (z : Sl), (∀ g ∈ gs, 1 ≤ g) → acc.length + gs.length ≤ 1000 →
    ∃ k' z', forS (.nm 4) b_groups_of_1 (gs.map .int) [.val l, .val (.str s), .own (acc.map .str), .val (.int (k : Nat)), z] = .next [.val l, .val (.str s), .own ((acc ++ cutG s gs k).map .str), .val (.int (k' : Nat)), z']
  | [], k, acc, z, _, _ => ⟨k, z, by simp [cutG, forS]⟩
  | g :: gs, k, acc, z, hg, hl => by
    rw [List.length_cons] at hl
    have g1 := hg g List.mem_cons_self
    obtain ⟨k', z', ih⟩ := gr_loop l s gs (k + g.toNat) (acc ++ [(s.drop k).take g.toNat]) (.val (.int g)) (fun x hx => hg x (List.mem_cons_of_mem _ hx)) (by simp; omega)
    refine ⟨k', z', ?_⟩
    rw [List.map_cons, forS, bindT_nm]
    have ek : (k : Int) + g = ((k + g.toNat : Nat) : Int) := by omega
    have sl : slD (.str s) (some (k : Int)) (some ((k + g.toNat : Nat) : Int)) = .ok (.str ((s.drop k).take g.toNat)) := by
      rw [sl_str, cut_mid _ _ _ (Nat.le_add_right _ _), Nat.add_sub_cancel_left]
    have ad : addD (.int (k : Int)) (.int g) = .ok (.int ((k + g.toNat : Nat) : Int)) := by rw [add_int, ek]
    generalize hk2 : ((k + g.toNat : Nat) : Int) = k2 at sl ad ih
    have step : b_groups_of_1 ([.val l, .val (.str s), .own (acc.map .str), .val (.int (k : Nat)), z].set 4 (.val (.int g))) = .next [.val l, .val (.str s), .own ((acc ++ [(s.drop k).take g.toNat]).map .str), .val (.int k2), .val (.int g)] := by
      simp [b_groups_of_1, -sl_str, -add_int]
      rw [sApp_flat (i := 2) (ds := acc.map .str) (d := .str ((s.drop k).take g.toNat)) rfl (by simp [-sl_str, -add_int, ad, sl]) rfl (by rw [List.length_map]; omega)]
      simp [-sl_str, -add_int, ad]
    simp only [step, ih, cutG, List.append_assoc, List.singleton_append]
theorem groups_d {l : Land} {r : Row} {s : List Nat} (hr : rowOf l.rows s = some r) (h : rowB r = true) : den_groups_of [Dat.d l, .str s] = .ok (.lst ((cutG s r.groups 0).map .str)) := by
  obtain ⟨h1, h2, _, _⟩ := groups_few h
  have ro := row_of_d l s
  rw [hr] at ro
  have i3 : ixD (Dat.d r) (.int 3) = .ok (.tup (r.groups.map .int)) := by simp [row_d]
  obtain ⟨k', z', e⟩ := gr_loop (Dat.d l) s r.groups 0 [] .no h2 (by simp; omega)
  simp only [List.map_nil, List.nil_append] at e
  simp [den_groups_of, runB, m_groups_of, startS, sParO, ro, i3]
  have e' : (0 : Int) = ((0 : Nat) : Int) := rfl
  rw [e', e]
  have fz : freeze [2] [Sl.val (Dat.d l), .val (.str s), .own ((cutG s r.groups 0).map .str), .val (.int (k' : Nat)), z'] = [Sl.val (Dat.d l), .val (.str s), .val (.lst ((cutG s r.groups 0).map .str)), .val (.int (k' : Nat)), z'] := by
    rw [freeze_own rfl, freeze_nil]
    rfl
  simp [fz]
/-- what is dialled -/
def dialL (l : Land) (home : List Nat) (n : Num) : List Nat := if n.1 = home then l.trunk ++ n.2 else l.far ++ n.1 ++ n.2
theorem dial_short {b : List Land} (hb : BookOk b) {n : Num} (hn : numB b n = true) {home : List Nat} {l : Land} (hl : landOf b home = some l) : ShortT 19 (dialL l home n) := by
  obtain ⟨ln, r, h1, h2, h3, h4, h5, h6, h7, h8⟩ := num_parts hb hn
  obtain ⟨d1, d2, d3⟩ := landB_all (book_land hb (landOf_in hl))
  obtain ⟨c1, _, _⟩ := landB_all (book_land hb h2)
  have s2 : ShortT 12 n.2 := ⟨h6, fun c hc => figB_lt (List.all_eq_true.mp h8 c hc)⟩
  unfold dialL
  split
  · exact d3.app s2 (by decide)
  · rw [h3] at c1
    exact (d2.app c1 (Nat.le_refl _)).app s2 (by decide)
theorem dialled_d {b : List Land} (hb : BookOk b) {n : Num} (hn : numB b n = true) {home : List Nat} {l : Land} (hl : landOf b home = some l) : den_dialled [bookD b, Dat.d n, .str home] = .ok (.str (dialL l home n)) := by
  have nn := need_num hb.ok hn
  have nl := need_land_ok hb hl
  have lo := land_of_d b home
  rw [hl] at lo
  obtain ⟨ln, r, h1, h2, h3, h4, h5, h6, h7, h8⟩ := num_parts hb hn
  obtain ⟨d1, d2, d3⟩ := landB_all (book_land hb (landOf_in hl))
  obtain ⟨c1, _, _⟩ := landB_all (book_land hb h2)
  have s2 : ShortT 12 n.2 := ⟨h6, fun c hc => figB_lt (List.all_eq_true.mp h8 c hc)⟩
  rw [h3] at c1
  have a1 := add_short d3 s2
  have a2 := add_short d2 c1
  have a3 := add_short (d2.app c1 (Nat.le_refl _)) s2
  have l1 : ixD (Dat.d l) (.int 1) = .ok (.str l.far) := by simp [land_d]
  have l2 : ixD (Dat.d l) (.int 2) = .ok (.str l.trunk) := by simp [land_d]
  have n0 : ixD (Dat.d n) (.int 0) = .ok (.str n.1) := by simp [num_d]
  have n1 : ixD (Dat.d n) (.int 1) = .ok (.str n.2) := by simp [num_d]
  have e := eq_str n.1 home
  have dof : den_dialled_of [bookD b, Dat.d n, .str home] = .ok (.str (dialL l home n)) := by
    unfold dialL
    by_cases c : n.1 = home
    · rw [if_pos c]
      rw [decide_eq_true c] at e
      simp [den_dialled_of, runB, m_dialled_of, startS, lo, n0, n1, e, l2, a1, -add_str]
    · rw [if_neg c]
      rw [decide_eq_false c] at e
      simp [den_dialled_of, runB, m_dialled_of, startS, lo, n0, n1, e, l1, a2, a3, -add_str, -List.append_assoc]
  simp [den_dialled, runB, m_dialled, startS, nn, nl, dof]
theorem fig_same (c : Nat) : figC c = figB c := rfl
/-- what is dialled are figures -/
theorem dial_figs {b : List Land} (hb : BookOk b) {n : Num} (hn : numB b n = true) {home : List Nat} {l : Land} (hl : landOf b home = some l) : (dialL l home n).all figC = true ∧ dialL l home n ≠ [] := by
  obtain ⟨ln, r, h1, h2, h3, h4, h5, h6, h7, h8⟩ := num_parts hb hn
  have lf : ∀ {x : Land}, landB x = true → x.code.all figB = true ∧ x.far.all figB = true ∧ x.trunk.all figB = true := fun {x} h => by
    unfold landB figs at h
    simp only [Bool.and_eq_true] at h
    exact ⟨h.1.2.2, h.2.2.1.2.2, h.2.2.2.1.2.2⟩
  obtain ⟨f1, f2, f3⟩ := lf (book_land hb (landOf_in hl))
  obtain ⟨g1, _, _⟩ := lf (book_land hb h2)
  rw [h3] at g1
  have ne : n.2 ≠ [] := fun e => by rw [e] at h7; simp at h7
  unfold dialL
  have e : ∀ s : List Nat, s.all figC = s.all figB := fun s => rfl
  split
  · exact ⟨by rw [e, List.all_append, f3, h8]; rfl, by simp [ne]⟩
  · exact ⟨by rw [e, List.all_append, List.all_append, f2, g1, h8]; rfl, by simp [ne]⟩
theorem plain_d {b : List Land} (hb : BookOk b) {n : Num} (hn : numB b n = true) {home : List Nat} {l : Land} (hl : landOf b home = some l) : den_written [bookD b, Dat.d n, .str [112, 108, 97, 105, 110], .str home] = .ok (.str ([43] ++ n.1 ++ n.2)) := by
  have nn := need_num hb.ok hn
  have nl := need_land_ok hb hl
  obtain ⟨ln, r, h1, h2, h3, h4, h5, h6, h7, h8⟩ := num_parts hb hn
  have lo := land_of_d b n.1
  rw [h1] at lo
  obtain ⟨c1, _, _⟩ := landB_all (book_land hb h2)
  have s2 : ShortT 12 n.2 := ⟨h6, fun c hc => figB_lt (List.all_eq_true.mp h8 c hc)⟩
  rw [h3] at c1
  have p1 : ShortT 1 [43] := ⟨Nat.le_refl _, by simp⟩
  have a2 := add_short p1 c1
  have a3 := add_short (p1.app c1 (Nat.le_refl _)) s2
  have n0 : ixD (Dat.d n) (.int 0) = .ok (.str n.1) := by simp [num_d]
  have n1 : ixD (Dat.d n) (.int 1) = .ok (.str n.2) := by simp [num_d]
  have gd := groups_d h4 h5
  have w : notInGF ws_WAYS (.str [112, 108, 97, 105, 110]) = .ok (.bl false) := by
    show Res.ok (D.bl (!decide _)) = _
    rw [decide_eq_true (by decide)]
    rfl
  have e := eq_str [112, 108, 97, 105, 110] [112, 108, 97, 105, 110]
  rw [decide_eq_true rfl] at e
  generalize [43] ++ n.1 = z at a2 a3 ⊢
  simp [den_written, runB, m_written, startS, nn, w, nl, lo, n0, n1, gd, e, a2, a3, -add_str, -List.append_assoc]
end DL
namespace DL
/-! ## all ways to write: on data -/
theorem join_any (sep : List Nat) (ys : List (List Nat)) (h : (ys.map (·.length)).sum + ys.length * sep.length ≤ 1000000) : joinS sep (.lst (ys.map .str)) = .ok (.str (joinL sep ys)) := by
  show ((oR (asStrs (ys.map .str))).bind fun ys => if (ys.map (·.length)).sum + ys.length * sep.length ≤ LIM then Res.ok (D.str (joinL sep ys)) else .stk) = _
  rw [asStrs_map]
  simp only [oR_some, Res.bind_ok]
  exact if_pos h
theorem joinL_cons2 (sep x y : List Nat) (r : List (List Nat)) : joinL sep (x :: y :: r) = x ++ sep ++ joinL sep (y :: r) := by simp [joinL]
theorem RunT.join {f s g t u : List Nat} (h : RunT f s) (h2 : RunT g t) (hu : ∀ x ∈ u, sepC x = true) : RunT (f ++ g) (s ++ u ++ t) := by
  have e : u.filter figC = [] := List.filter_eq_nil_iff.mpr fun x hx => by simp [(sep_not (hu x hx)).1]
  refine ⟨?_, fun x hx => ?_, ?_, fun d hd => ?_⟩
  · rw [List.filter_append, List.filter_append, h.figs, h2.figs, e, List.append_nil]
  · rcases List.mem_append.mp hx with hx | hx
    · rcases List.mem_append.mp hx with hx | hx
      · exact h.runs x hx
      · exact .inr (hu x hx)
    · exact h2.runs x hx
  · obtain ⟨d, r, e, hd⟩ := h.head
    exact ⟨d, r ++ u ++ t, by rw [e]; simp, hd⟩
  · obtain ⟨c, r, e, _⟩ := h2.head
    have : t ≠ [] := by rw [e]; simp
    rw [List.getLast?_append] at hd
    cases hq : t.getLast? with
    | none => exact absurd (List.getLast?_eq_none_iff.mp hq) this
    | some x =>
      rw [hq] at hd
      have : x = d := by simpa using hd
      subst this
      exact h2.last _ hq
theorem runT_joinL {c : Nat} (hc : sepC c = true) : ∀ {ws : List (List Nat)}, ws ≠ [] → (∀ w ∈ ws, w ≠ [] ∧ w.all figC = true) → RunT ws.flatten (joinL [c] ws)
  | [], h, _ => absurd rfl h
  | [w], _, h => by
    obtain ⟨h1, h2⟩ := h w List.mem_cons_self
    simpa [joinL] using runT_self h2 h1
  | w :: v :: r, _, h => by
    obtain ⟨h1, h2⟩ := h w List.mem_cons_self
    have ih := runT_joinL hc (ws := v :: r) (by simp) fun x hx => h x (List.mem_cons_of_mem _ hx)
    rw [joinL_cons2, List.flatten_cons]
    exact (runT_self h2 h1).join ih (by simp [hc])
theorem joinL1_len (c : Nat) : ∀ (ws : List (List Nat)), (joinL [c] ws).length ≤ ws.flatten.length + ws.length
  | [] => by simp [joinL]
  | [w] => by simp [joinL]
  | w :: v :: r => by
    have ih := joinL1_len c (v :: r)
    rw [joinL_cons2, List.length_append, List.length_append, List.length_singleton, List.flatten_cons, List.length_append, List.length_cons (as := v :: r)]
    omega
theorem joinL1_mem {c x : Nat} : ∀ {ws : List (List Nat)}, x ∈ joinL [c] ws → x = c ∨ x ∈ ws.flatten
  | [], h => by simp [joinL] at h
  | [w], h => by right; simpa [joinL] using h
  | w :: v :: r, h => by
    rw [joinL_cons2] at h
    rcases List.mem_append.mp h with h | h
    · rcases List.mem_append.mp h with h | h
      · right; rw [List.flatten_cons]; exact List.mem_append_left _ h
      · left; exact List.mem_singleton.mp h
    · rcases joinL1_mem h with h | h
      · exact .inl h
      · right; rw [List.flatten_cons]; exact List.mem_append_right _ h
theorem cutG_flat (s : List Nat) : ∀ (gs : List Int) (k : Nat), (∀ g ∈ gs, 1 ≤ g) → (k : Int) + gs.sum = s.length → (cutG s gs k).flatten = s.drop k ∧ ∀ w ∈ cutG s gs k, w ≠ []
  | [], k, _, h => by
    simp only [List.sum_nil, Int.add_zero] at h
    have : s.drop k = [] := List.drop_eq_nil_of_le (by omega)
    simp [cutG, this]
  | g :: gs, k, hg, h => by
    rw [List.sum_cons] at h
    have g1 := hg g List.mem_cons_self
    have hs : 0 ≤ gs.sum := by
      have key : ∀ l : List Int, (∀ x ∈ l, 1 ≤ x) → 0 ≤ l.sum := by
        intro l
        induction l with
        | nil => intro _; simp
        | cons x l ih =>
          intro h
          have := ih fun g hg => h g (List.mem_cons_of_mem _ hg)
          have := h x List.mem_cons_self
          simp only [List.sum_cons]
          omega
      exact key gs fun x hx => hg x (List.mem_cons_of_mem _ hx)
    obtain ⟨h1, h2⟩ := cutG_flat s gs (k + g.toNat) (fun x hx => hg x (List.mem_cons_of_mem _ hx)) (by omega)
    refine ⟨?_, fun w hw => ?_⟩
    · rw [cutG, List.flatten_cons, h1, ← List.drop_drop, List.take_append_drop]
    · rcases List.mem_cons.mp hw with rfl | hw
      · intro e
        have := congrArg List.length e
        rw [List.length_take, List.length_drop] at this
        simp at this
        omega
      · exact h2 w hw
/-- all that writing a right number wants -/
structure Wr (b : List Land) (n : Num) (ln : Land) (r : Row) (G : List (List Nat)) : Prop where
  land : landOf b n.1 = some ln
  row : rowOf ln.rows n.2 = some r
  rowB : rowB r = true
  g : G = cutG n.2 r.groups 0
  flat : G.flatten = n.2
  ne : G ≠ []
  each : ∀ w ∈ G, w ≠ [] ∧ w.all figC = true
  few : G.length ≤ 12
  code : n.1.all figC = true ∧ n.1 ≠ [] ∧ n.1.length ≤ 3
  digs : n.2.all figC = true ∧ n.2 ≠ [] ∧ n.2.length ≤ 12
  mem : ln ∈ b
  lc : ln.code = n.1
theorem wr_of {b : List Land} (hb : BookOk b) {n : Num} (hn : numB b n = true) : ∃ ln r G, Wr b n ln r G := by
  obtain ⟨ln, r, h1, h2, h3, h4, h5, h6, h7, h8⟩ := num_parts hb hn
  obtain ⟨g1, g2, g3, g4⟩ := groups_few h5
  have hs : r.size = (n.2.length : Int) := by
    have key : ∀ (rows : List Row) (best : Option Row), rows.foldl (rowStep n.2) best = some r → best = some r ∨ fitsB n.2 r = true := by
      intro rows
      induction rows with
      | nil => intro best h; exact .inl h
      | cons x rows ih =>
        intro best h
        rcases ih _ h with h | h
        · unfold rowStep at h
          split at h
          · rename_i hc
            cases h
            simp only [Bool.and_eq_true] at hc
            exact .inr hc.1
          · exact .inl h
        · exact .inr h
    rcases key ln.rows none h4 with h | h
    · cases h
    · unfold fitsB at h
      simp only [Bool.and_eq_true, decide_eq_true_eq] at h
      exact h.1.symm
  obtain ⟨c1, c2⟩ := cutG_flat n.2 r.groups 0 g2 (by rw [g3, hs]; simp)
  rw [List.drop_zero] at c1
  have hl := book_land hb h2
  unfold landB figs at hl
  simp only [Bool.and_eq_true, decide_eq_true_eq] at hl
  have hc := hl.1
  rw [h3] at hc
  refine ⟨ln, r, _, h1, h4, h5, rfl, c1, fun e => ?_, fun w hw => ⟨c2 w hw, ?_⟩, by rw [cutG_len]; exact g1, ⟨hc.2.2, fun e => by rw [e] at hc; simp at hc, by omega⟩, ⟨h8, fun e => by rw [e] at h7; simp at h7, h6⟩, h2, h3⟩
  · have := congrArg List.length e
    rw [cutG_len] at this
    exact g4 (List.length_eq_zero_iff.mp this)
  · rw [List.all_eq_true]
    intro x hx
    exact List.all_eq_true.mp h8 x ((cutG_mem w hw).2 x hx)
section
variable {b : List Land} {n : Num} {ln : Land} {r : Row} {G : List (List Nat)}
theorem Wr.sum (w : Wr b n ln r G) : (G.map (·.length)).sum ≤ 12 := by
  rw [← List.length_flatten, w.flat]; exact w.digs.2.2
theorem Wr.joinG (w : Wr b n ln r G) (c : Nat) : joinS [c] (.lst (G.map .str)) = .ok (.str (joinL [c] G)) := join_any _ _ (by have := w.sum; have := w.few; simp only [List.length_singleton]; omega)
theorem Wr.joinC (w : Wr b n ln r G) (c : Nat) (x : List Nat) (hx : x.length ≤ 100) : joinS [c] (.lst (.str x :: G.map .str)) = .ok (.str (joinL [c] (x :: G))) := join_any [c] (x :: G) (by
  have h1 := w.sum
  have h2 := w.few
  rw [List.map_cons, List.sum_cons, List.length_cons, List.length_singleton, Nat.mul_one]
  omega)
theorem Wr.shortG (w : Wr b n ln r G) {c : Nat} (hc : c < 1000) : ShortT 24 (joinL [c] G) := by
  refine ⟨?_, fun x hx => ?_⟩
  · have := joinL1_len c G
    rw [w.flat] at this
    have := w.few
    have := w.digs.2.2
    omega
  · rcases joinL1_mem hx with rfl | hx
    · exact hc
    · rw [w.flat] at hx
      exact figB_lt (List.all_eq_true.mp w.digs.1 x hx)
theorem Wr.shortC (w : Wr b n ln r G) {c : Nat} (hc : c < 1000) {x : List Nat} {k : Nat} (hx : ShortT k x) : ShortT (k + 25) (joinL [c] (x :: G)) := by
  refine ⟨?_, fun y hy => ?_⟩
  · have := joinL1_len c (x :: G)
    rw [List.flatten_cons, List.length_append, w.flat, List.length_cons] at this
    have := w.few
    have := w.digs.2.2
    have := hx.1
    omega
  · rcases joinL1_mem hy with rfl | hy
    · exact hc
    · rw [List.flatten_cons, w.flat] at hy
      rcases List.mem_append.mp hy with hy | hy
      · exact hx.2 y hy
      · exact figB_lt (List.all_eq_true.mp w.digs.1 y hy)
theorem Wr.codeS (w : Wr b n ln r G) : ShortT 3 n.1 := ⟨w.code.2.2, fun c hc => figB_lt (List.all_eq_true.mp w.code.1 c hc)⟩
theorem Wr.digS (w : Wr b n ln r G) : ShortT 12 n.2 := ⟨w.digs.2.2, fun c hc => figB_lt (List.all_eq_true.mp w.digs.1 c hc)⟩
theorem Wr.runG (w : Wr b n ln r G) {c : Nat} (hc : sepC c = true) : RunT n.2 (joinL [c] G) := by
  have := runT_joinL hc w.ne w.each
  rwa [w.flat] at this
theorem Wr.runC (w : Wr b n ln r G) {c : Nat} (hc : sepC c = true) {x : List Nat} (h1 : x ≠ []) (h2 : x.all figC = true) : RunT (x ++ n.2) (joinL [c] (x :: G)) := by
  have := runT_joinL hc (ws := x :: G) (by simp) fun y hy => by
    rcases List.mem_cons.mp hy with rfl | hy
    · exact ⟨h1, h2⟩
    · exact w.each y hy
  rwa [List.flatten_cons, w.flat] at this
end
/-- the four ways -/
def farT (n : Num) (G : List (List Nat)) : List Nat := [43] ++ joinL [32] (n.1 :: G)
def nearT (G : List (List Nat)) : List Nat := joinL [32] G
def homeT (l : Land) (home : List Nat) (n : Num) (G : List (List Nat)) : List Nat := if n.1 = home then l.trunk ++ joinL [32] G else joinL [32] ((l.far ++ n.1) :: G)
def plainT (n : Num) : List Nat := [43] ++ n.1 ++ n.2
def linkT (n : Num) (G : List (List Nat)) : List Nat := [43] ++ joinL [45] (n.1 :: G)
section
variable {b : List Land} {n : Num} {ln : Land} {r : Row} {G : List (List Nat)} {l : Land} {home : List Nat}
theorem far_w (hb : BookOk b) (hn : numB b n = true) (w : Wr b n ln r G) (hl : landOf b home = some l) : den_written [bookD b, Dat.d n, .str [102, 97, 114], .str home] = .ok (.str (farT n G)) := by
  have nn := need_num hb.ok hn
  have nl := need_land_ok hb hl
  have lo := land_of_d b n.1
  rw [w.land] at lo
  have n0 : ixD (Dat.d n) (.int 0) = .ok (.str n.1) := by simp [num_d]
  have n1 : ixD (Dat.d n) (.int 1) = .ok (.str n.2) := by simp [num_d]
  have gd := groups_d w.row w.rowB
  rw [← w.g] at gd
  have wy : notInGF ws_WAYS (.str [102, 97, 114]) = .ok (.bl false) := by
    show Res.ok (D.bl (!decide _)) = _
    rw [decide_eq_true (by decide)]
    rfl
  have e1 := eq_str [102, 97, 114] [112, 108, 97, 105, 110]
  rw [decide_eq_false (by decide)] at e1
  have e2 := eq_str [102, 97, 114] [102, 97, 114]
  rw [decide_eq_true rfl] at e2
  have p1 : ShortT 1 [43] := ⟨Nat.le_refl _, by simp⟩
  have js := w.joinC 32 n.1 (by have := w.code.2.2; omega)
  have a1 := add_short p1 (w.shortC (c := 32) (by decide) w.codeS)
  have al : addD (.lst [.str n.1]) (.lst (G.map .str)) = .ok (.lst (.str n.1 :: G.map .str)) := by
    rw [add_lst, if_pos (by have := w.few; rw [List.length_map, List.length_singleton]; omega)]
    rfl
  unfold farT
  generalize joinL [32] (n.1 :: G) = z at js a1 ⊢
  simp [den_written, runB, m_written, startS, nn, wy, nl, lo, n0, n1, gd, e1, e2, js, a1, al, -add_str, -add_lst]
theorem near_w (hb : BookOk b) (hn : numB b n = true) (w : Wr b n ln r G) (hl : landOf b home = some l) : den_written [bookD b, Dat.d n, .str [110, 101, 97, 114], .str home] = .ok (.str (nearT G)) := by
  have nn := need_num hb.ok hn
  have nl := need_land_ok hb hl
  have lo := land_of_d b n.1
  rw [w.land] at lo
  have n0 : ixD (Dat.d n) (.int 0) = .ok (.str n.1) := by simp [num_d]
  have n1 : ixD (Dat.d n) (.int 1) = .ok (.str n.2) := by simp [num_d]
  have gd := groups_d w.row w.rowB
  rw [← w.g] at gd
  have wy : notInGF ws_WAYS (.str [110, 101, 97, 114]) = .ok (.bl false) := by
    show Res.ok (D.bl (!decide _)) = _
    rw [decide_eq_true (by decide)]
    rfl
  have e1 := eq_str [110, 101, 97, 114] [112, 108, 97, 105, 110]
  rw [decide_eq_false (by decide)] at e1
  have e2 := eq_str [110, 101, 97, 114] [102, 97, 114]
  rw [decide_eq_false (by decide)] at e2
  have e3 := eq_str [110, 101, 97, 114] [110, 101, 97, 114]
  rw [decide_eq_true rfl] at e3
  have js := w.joinG 32
  unfold nearT
  simp [den_written, runB, m_written, startS, nn, wy, nl, lo, n0, n1, gd, e1, e2, e3, js, -add_str, -add_lst]
theorem home_w (hb : BookOk b) (hn : numB b n = true) (w : Wr b n ln r G) (hl : landOf b home = some l) : den_written [bookD b, Dat.d n, .str [104, 111, 109, 101], .str home] = .ok (.str (homeT l home n G)) := by
  have nn := need_num hb.ok hn
  have nl := need_land_ok hb hl
  have lo := land_of_d b n.1
  rw [w.land] at lo
  have lh := land_of_d b home
  rw [hl] at lh
  have n0 : ixD (Dat.d n) (.int 0) = .ok (.str n.1) := by simp [num_d]
  have n1 : ixD (Dat.d n) (.int 1) = .ok (.str n.2) := by simp [num_d]
  have l1 : ixD (Dat.d l) (.int 1) = .ok (.str l.far) := by simp [land_d]
  have l2 : ixD (Dat.d l) (.int 2) = .ok (.str l.trunk) := by simp [land_d]
  obtain ⟨d1, d2, d3⟩ := landB_all (book_land hb (landOf_in hl))
  have gd := groups_d w.row w.rowB
  rw [← w.g] at gd
  have wy : notInGF ws_WAYS (.str [104, 111, 109, 101]) = .ok (.bl false) := by
    show Res.ok (D.bl (!decide _)) = _
    rw [decide_eq_true (by decide)]
    rfl
  have e1 := eq_str [104, 111, 109, 101] [112, 108, 97, 105, 110]
  rw [decide_eq_false (by decide)] at e1
  have e2 := eq_str [104, 111, 109, 101] [102, 97, 114]
  rw [decide_eq_false (by decide)] at e2
  have e3 := eq_str [104, 111, 109, 101] [110, 101, 97, 114]
  rw [decide_eq_false (by decide)] at e3
  have e4 := eq_str n.1 home
  unfold homeT
  by_cases c : n.1 = home
  · rw [if_pos c]
    rw [decide_eq_true c] at e4
    have js := w.joinG 32
    have a1 := add_short d3 (w.shortG (c := 32) (by decide))
    generalize joinL [32] G = z at js a1 ⊢
    simp [den_written, runB, m_written, startS, nn, wy, nl, lo, n0, n1, gd, e1, e2, e3, lh, e4, l2, js, a1, -add_str, -add_lst]
  · rw [if_neg c]
    rw [decide_eq_false c] at e4
    have a1 := add_short d2 w.codeS
    have s1 : ShortT 7 (l.far ++ n.1) := d2.app w.codeS (by decide)
    have js := w.joinC 32 (l.far ++ n.1) (by have := s1.1; omega)
    generalize l.far ++ n.1 = y at a1 js ⊢
    have al : addD (.lst [.str y]) (.lst (G.map .str)) = .ok (.lst (.str y :: G.map .str)) := by
      rw [add_lst, if_pos (by have := w.few; rw [List.length_map, List.length_singleton]; omega)]
      rfl
    simp [den_written, runB, m_written, startS, nn, wy, nl, lo, n0, n1, gd, e1, e2, e3, lh, e4, l1, js, a1, al, -add_str, -add_lst]
theorem linked_w (hb : BookOk b) (hn : numB b n = true) (w : Wr b n ln r G) : den_linked [bookD b, Dat.d n] = .ok (.str (linkT n G)) := by
  have nn := need_num hb.ok hn
  have lo := land_of_d b n.1
  rw [w.land] at lo
  have n0 : ixD (Dat.d n) (.int 0) = .ok (.str n.1) := by simp [num_d]
  have n1 : ixD (Dat.d n) (.int 1) = .ok (.str n.2) := by simp [num_d]
  have gd := groups_d w.row w.rowB
  rw [← w.g] at gd
  have p1 : ShortT 1 [43] := ⟨Nat.le_refl _, by simp⟩
  have js := w.joinC 45 n.1 (by have := w.code.2.2; omega)
  have a1 := add_short p1 (w.shortC (c := 45) (by decide) w.codeS)
  have al : addD (.lst [.str n.1]) (.lst (G.map .str)) = .ok (.lst (.str n.1 :: G.map .str)) := by
    rw [add_lst, if_pos (by have := w.few; rw [List.length_map, List.length_singleton]; omega)]
    rfl
  unfold linkT
  generalize joinL [45] (n.1 :: G) = z at js a1 ⊢
  simp [den_linked, runB, m_linked, startS, nn, lo, n0, n1, gd, js, a1, al, -add_str, -add_lst]
end
end DL
namespace DL
/-! ## what texts that are written mean -/
section
variable {b : List Land} {n : Num} {ln : Land} {r : Row} {G : List (List Nat)} {l : Land} {home : List Nat}
theorem land_figs {b : List Land} (hb : BookOk b) {l : Land} (hl : l ∈ b) : l.code.all figC = true ∧ l.far.all figC = true ∧ l.trunk.all figC = true ∧ l.far ≠ [] := by
  have h := book_land hb hl
  unfold landB figs at h
  simp only [Bool.and_eq_true, decide_eq_true_eq] at h
  exact ⟨h.1.2.2, h.2.2.1.2.2, h.2.2.2.1.2.2, fun e => by have := h.2.2.1.1; rw [e] at this; simp at this⟩
theorem runT_nil_app {t f s : List Nat} (h : t.all figC = true) (h2 : RunT f s) : RunT (t ++ f) (t ++ s) := by
  by_cases c : t = []
  · subst c; exact h2
  · have := (runT_self h c).join h2 (u := []) (by simp)
    simpa using this
theorem run_home (hb : BookOk b) (w : Wr b n ln r G) (hl : landOf b home = some l) : RunT (dialL l home n) (homeT l home n G) := by
  obtain ⟨_, f2, f3, f4⟩ := land_figs hb (landOf_in hl)
  unfold dialL homeT
  split
  · exact runT_nil_app f3 (w.runG (by decide))
  · exact w.runC (by decide) (by simp [f4]) (by rw [List.all_append, f2, w.code.1]; rfl)
theorem run_dial (hb : BookOk b) (hn : numB b n = true) (hl : landOf b home = some l) : RunT (dialL l home n) (dialL l home n) := by
  obtain ⟨h1, h2⟩ := dial_figs hb hn hl
  exact runT_self h1 h2
theorem run_plain (w : Wr b n ln r G) : RunT (n.1 ++ n.2) (n.1 ++ n.2) := runT_self (by rw [List.all_append, w.code.1, w.digs.1]; rfl) (by simp [w.code.2.1])
theorem home_len (hb : BookOk b) (w : Wr b n ln r G) (hl : landOf b home = some l) : ShortT 40 (homeT l home n G) := by
  obtain ⟨d1, d2, d3⟩ := landB_all (book_land hb (landOf_in hl))
  unfold homeT
  split
  · exact (d3.app (w.shortG (c := 32) (by decide)) (by decide))
  · exact (w.shortC (c := 32) (by decide) (d2.app w.codeS (Nat.le_refl _))).mono (by decide)
theorem far_len (w : Wr b n ln r G) : ShortT 40 (farT n G) := by
  have p1 : ShortT 1 [43] := ⟨Nat.le_refl _, by simp⟩
  exact p1.app (w.shortC (c := 32) (by decide) w.codeS) (by decide)
theorem link_len (w : Wr b n ln r G) : ShortT 40 (linkT n G) := by
  have p1 : ShortT 1 [43] := ⟨Nat.le_refl _, by simp⟩
  exact p1.app (w.shortC (c := 45) (by decide) w.codeS) (by decide)
theorem near_len (w : Wr b n ln r G) : ShortT 40 (nearT G) := (w.shortG (c := 32) (by decide)).mono (by decide)
theorem plain_len (w : Wr b n ln r G) : ShortT 40 (plainT n) := by
  have p1 : ShortT 1 [43] := ⟨Nat.le_refl _, by simp⟩
  exact (p1.app w.codeS (Nat.le_refl _)).app w.digS (by decide)
theorem pp_plain (w : Wr b n ln r G) : ppieces (plainT n) = some (true, [(n.1 ++ n.2, false)]) := by
  have h := (run_plain w).plus (by rw [List.length_append]; have := w.code.2.2; have := w.digs.2.2; omega)
  unfold plainT
  rw [List.append_assoc]
  exact h
theorem pp_far (w : Wr b n ln r G) : ppieces (farT n G) = some (true, [(n.1 ++ n.2, false)]) := (w.runC (c := 32) (by decide) w.code.2.1 w.code.1).plus (by have := (w.shortC (c := 32) (by decide) w.codeS).1; omega)
theorem pp_link (w : Wr b n ln r G) : ppieces (linkT n G) = some (true, [(n.1 ++ n.2, false)]) := (w.runC (c := 45) (by decide) w.code.2.1 w.code.1).plus (by have := (w.shortC (c := 45) (by decide) w.codeS).1; omega)
theorem pp_home (hb : BookOk b) (w : Wr b n ln r G) (hl : landOf b home = some l) : ppieces (homeT l home n G) = some (false, [(dialL l home n, false)]) := (run_home hb w hl).pieces (by have := (home_len hb w hl).1; omega)
theorem pp_dial (hb : BookOk b) (hn : numB b n = true) (hl : landOf b home = some l) : ppieces (dialL l home n) = some (false, [(dialL l home n, false)]) := (run_dial hb hn hl).pieces (by have := (dial_short hb hn hl).1; omega)
theorem pp_near (w : Wr b n ln r G) : ppieces (nearT G) = some (false, [(n.2, false)]) := (w.runG (c := 32) (by decide)).pieces (by have := (w.shortG (c := 32) (by decide)).1; omega)
theorem home_has (hn : numB b n = true) (w : Wr b n ln r G) (k : Bool) : n ∈ readL b l home false [(dialL l home n, k)] := by
  unfold readL
  rw [List.mem_filter, mem_sortN]
  refine ⟨?_, hn⟩
  have e : whole [(dialL l home n, k)] = dialL l home n := by simp [whole]
  unfold meantL
  rw [if_neg (by decide), e]
  unfold dialL
  by_cases c : n.1 = home
  · rw [if_pos c]
    by_cases c2 : l.trunk = []
    · rw [c2, List.nil_append]
      refine List.mem_append_left _ ?_
      rw [List.mem_singleton, ← c]
    · refine List.mem_append_right _ (List.mem_append_left _ ?_)
      rw [if_pos ⟨c2, by simp⟩, List.mem_singleton, List.drop_left, ← c]
  · rw [if_neg c]
    refine List.mem_append_right _ (List.mem_append_right _ ?_)
    rw [if_pos (by simp)]
    unfold farL
    rw [List.mem_flatMap]
    refine ⟨ln, w.mem, ?_⟩
    unfold farOne
    have e2 : whole [(l.far ++ n.1 ++ n.2, k)] = l.far ++ n.1 ++ n.2 := by simp [whole]
    have e3 : (l.far ++ n.1 ++ n.2).drop l.far.length = n.1 ++ n.2 := by rw [List.append_assoc, List.drop_left]
    rw [e2, e3, w.lc, if_pos (by simp)]
    simp
theorem near_has (hn : numB b n = true) (h : n.1 = home) (k : Bool) : n ∈ readL b l home false [(n.2, k)] := by
  unfold readL
  rw [List.mem_filter, mem_sortN]
  refine ⟨?_, hn⟩
  unfold meantL
  rw [if_neg (by decide)]
  refine List.mem_append_left _ ?_
  have e : whole [(n.2, k)] = n.2 := by simp [whole]
  rw [e, List.mem_singleton, ← h]
/-! ## replace -/
theorem repl_one (z : List Nat) : ∀ s : List Nat, PySem.StrLaws.replL [32] z s = s.flatMap fun c => if c = 32 then z else [c]
  | [] => PySem.StrLaws.replL_nil
  | c :: s => by
    by_cases h : c = 32
    · subst h
      rw [PySem.StrLaws.replL_hit (by simp) (by rfl), List.flatMap_cons, if_pos rfl]
      show z ++ PySem.StrLaws.replL [32] z s = _
      rw [repl_one z s]
    · rw [PySem.StrLaws.replL_miss (by simpa using h), List.flatMap_cons, if_neg h, repl_one z s]
      rfl
theorem flat_no32 (z : List Nat) {s : List Nat} (h : ∀ c ∈ s, c ≠ 32) : (s.flatMap fun c => if c = 32 then z else [c]) = s := by
  induction s with
  | nil => rfl
  | cons c s ih =>
    rw [List.flatMap_cons, if_neg (h c List.mem_cons_self), ih fun x hx => h x (List.mem_cons_of_mem _ hx)]
    rfl
theorem flat_join (z : List Nat) : ∀ {ws : List (List Nat)}, (∀ w ∈ ws, ∀ c ∈ w, c ≠ 32) → ((joinL [32] ws).flatMap fun c => if c = 32 then z else [c]) = joinL z ws
  | [], _ => rfl
  | [w], h => by
    rw [joinL, joinL]
    exact flat_no32 z (h w List.mem_cons_self)
  | w :: v :: r, h => by
    have ih := flat_join z (ws := v :: r) fun x hx => h x (List.mem_cons_of_mem _ hx)
    rw [joinL_cons2, joinL_cons2, List.flatMap_append, List.flatMap_append, ih, flat_no32 z (h w List.mem_cons_self)]
    simp
theorem joinL_e : ∀ ws : List (List Nat), joinL [] ws = ws.flatten := joinL_nil
theorem no32 {s : List Nat} (h : s.all figC = true) : ∀ c ∈ s, c ≠ 32 := fun c hc => (fig_not (List.all_eq_true.mp h c hc)).2.2.1
theorem Wr.no32C (w : Wr b n ln r G) {x : List Nat} (hx : x.all figC = true) : ∀ y ∈ x :: G, ∀ c ∈ y, c ≠ 32 := fun y hy => by
  rcases List.mem_cons.mp hy with rfl | hy
  · exact no32 hx
  · exact no32 (w.each y hy).2
theorem repl_far (w : Wr b n ln r G) : PySem.StrLaws.replL [32] [45] (farT n G) = linkT n G := by
  rw [repl_one]
  unfold farT linkT
  rw [List.flatMap_append, flat_join [45] (w.no32C w.code.1)]
  rfl
theorem repl_far0 (w : Wr b n ln r G) : PySem.StrLaws.replL [32] [] (farT n G) = plainT n := by
  rw [repl_one]
  unfold farT plainT
  rw [List.flatMap_append, flat_join [] (w.no32C w.code.1), joinL_e, List.flatten_cons, w.flat, List.append_assoc]
  rfl
theorem repl_home0 (hb : BookOk b) (w : Wr b n ln r G) (hl : landOf b home = some l) : PySem.StrLaws.replL [32] [] (homeT l home n G) = dialL l home n := by
  obtain ⟨_, f2, f3, f4⟩ := land_figs hb (landOf_in hl)
  rw [repl_one]
  unfold homeT dialL
  split
  · rw [List.flatMap_append, flat_no32 [] (no32 f3), flat_join [] (fun y hy => no32 (w.each y hy).2), joinL_e, w.flat]
  · rw [flat_join [] (w.no32C (by rw [List.all_append, f2, w.code.1]; rfl)), joinL_e, List.flatten_cons, w.flat]
theorem replF_ok {z s t : List Nat} (h : PySem.StrLaws.replL [32] z s = t) (ht : ShortT 40 t) (hs : s.length ≤ 1000) (hz : z.length ≤ 1) : replF [32] z (.str s) = .ok (.str t) := by
  show (if okSB (PySem.StrLaws.replL [32] z s) = true ∧ s.length + (s.length + 1) * z.length ≤ 16777216 then Res.ok (D.str (PySem.StrLaws.replL [32] z s)) else .stk) = _
  have h2 : (s.length + 1) * z.length ≤ (s.length + 1) * 1 := Nat.mul_le_mul_left _ hz
  have hc : okSB t = true ∧ s.length + (s.length + 1) * z.length ≤ 16777216 := ⟨okS_txt (ht.txt (by decide)), by omega⟩
  rw [h, if_pos hc]
end
/-! ## the first of the shortest -/
open PySem in
theorem best_first (f : Nat → Int) (bt : Nat → Nat → Bool) (m : Nat) (hbt : ∀ i j, i < m → j < m → bt i j = decide (f i < f j)) : ∀ j, j < m → argBest bt j ≤ j ∧ (∀ i, i ≤ j → f (argBest bt j) ≤ f i) ∧ ∀ i, i < argBest bt j → f (argBest bt j) < f i
  | 0, _ => ⟨Nat.le_refl _, fun i hi => by
      have : i = 0 := by omega
      subst this; exact Int.le_refl _, fun i hi => absurd hi (Nat.not_lt_zero _)⟩
  | j + 1, hj => by
    obtain ⟨h1, h2, h3⟩ := best_first f bt m hbt j (by omega)
    have e := hbt (j + 1) (argBest bt j) hj (by omega)
    unfold argBest
    by_cases c : f (j + 1) < f (argBest bt j)
    · rw [decide_eq_true c] at e
      rw [e, if_pos rfl]
      refine ⟨Nat.le_refl _, fun i hi => ?_, fun i hi => ?_⟩
      · rcases Nat.lt_or_ge i (j + 1) with h | h
        · have := h2 i (by omega); omega
        · have : i = j + 1 := by omega
          subst this; exact Int.le_refl _
      · have := h2 i (by omega); omega
    · rw [decide_eq_false c] at e
      rw [e, if_neg (by decide)]
      refine ⟨by omega, fun i hi => ?_, h3⟩
      rcases Nat.lt_or_ge i (j + 1) with h | h
      · exact h2 i (by omega)
      · have : i = j + 1 := by omega
        subst this
        omega
open PySem in
theorem min_d {ts : List (List Nat)} (hne : ts ≠ []) : ∃ pre t post, ts = pre ++ t :: post ∧ (∀ u ∈ ts, t.length ≤ u.length) ∧ (∀ u ∈ pre, t.length < u.length) ∧ minKF (mCall lenF (aCons (mVar 0) (aNil))) [.lst (ts.map .str)] = .ok (.str t) := by
  have hkey : ∀ s : List Nat, keyOf (mCall lenF (aCons (mVar 0) (aNil))) (.str s) = s.length := fun s => by simp [keyOf]
  have hall : (ts.map D.str).all (hasKey (mCall lenF (aCons (mVar 0) (aNil)))) = true := by
    rw [List.all_eq_true]
    intro d hd
    obtain ⟨s, _, rfl⟩ := List.mem_map.mp hd
    simp [hasKey]
  have hl : 0 < ts.length := List.length_pos_iff.mpr hne
  let f : Nat → Int := fun i => ((ts.getD i []).length : Int)
  have hbt : ∀ i j, i < ts.length → j < ts.length → btD (mCall lenF (aCons (mVar 0) (aNil))) (ts.map .str) i j = decide (f i < f j) := fun i j hi hj => by
    unfold btD
    rw [List.getElem?_map, List.getElem?_map, List.getElem?_eq_getElem hi, List.getElem?_eq_getElem hj]
    simp only [Option.map_some, hkey]
    show _ = decide (((ts.getD i []).length : Int) < ((ts.getD j []).length : Int))
    rw [List.getD_eq_getElem?_getD, List.getD_eq_getElem?_getD, List.getElem?_eq_getElem hi, List.getElem?_eq_getElem hj]
    rfl
  obtain ⟨h1, h2, h3⟩ := best_first f _ ts.length hbt (ts.length - 1) (by omega)
  generalize ha : argBest (btD (mCall lenF (aCons (mVar 0) (aNil))) (ts.map .str)) (ts.length - 1) = a at h1 h2 h3
  have hal : a < ts.length := by omega
  have fa : ∀ i (hi : i < ts.length), f i = (ts[i].length : Int) := fun i hi => by
    show ((ts.getD i []).length : Int) = _
    rw [List.getD_eq_getElem?_getD, List.getElem?_eq_getElem hi]
    rfl
  refine ⟨ts.take a, ts[a], ts.drop (a + 1), ?_, fun u hu => ?_, fun u hu => ?_, ?_⟩
  · rw [← List.drop_eq_getElem_cons hal, List.take_append_drop]
  · obtain ⟨i, hi, rfl⟩ := List.mem_iff_getElem.mp hu
    have := h2 i (by omega)
    rw [fa a hal, fa i hi] at this
    omega
  · obtain ⟨i, hi, rfl⟩ := List.mem_iff_getElem.mp hu
    rw [List.length_take] at hi
    rw [List.getElem_take]
    have := h3 i (by omega)
    rw [fa a hal, fa i (by omega)] at this
    omega
  · show (if (ts.map D.str).all (hasKey _) = true then (match (ts.map D.str)[argBest _ ((ts.map D.str).length - 1)]? with
      | some d => Res.ok d
      | none => .stk) else .stk) = _
    rw [if_pos hall, List.length_map, ha, List.getElem?_map, List.getElem?_eq_getElem hal]
    rfl
end DL
namespace DL
/-! ## the ways of one number -/
section
variable {b : List Land} {n : Num} {ln : Land} {r : Row} {G : List (List Nat)} {l : Land} {home : List Nat}
abbrev wP : List Nat := [112, 108, 97, 105, 110]
abbrev wF : List Nat := [102, 97, 114]
abbrev wH : List Nat := [104, 111, 109, 101]
abbrev wN : List Nat := [110, 101, 97, 114]
def wayT (l : Land) (home : List Nat) (n : Num) (G : List (List Nat)) (w : List Nat) : List Nat := if w = wP then plainT n else if w = wF then farT n G else if w = wH then homeT l home n G else nearT G
theorem way_cases {w : List Nat} (h : w ∈ ws_WAYS) : w = wP ∨ w = wF ∨ w = wH ∨ w = wN := by
  have : w ∈ [wP, wF, wH, wN] := h
  simpa using this
theorem written_any (hb : BookOk b) (hn : numB b n = true) (w : Wr b n ln r G) (hl : landOf b home = some l) {y : List Nat} (hy : y ∈ ws_WAYS) : den_written [bookD b, Dat.d n, .str y, .str home] = .ok (.str (wayT l home n G y)) := by
  rcases way_cases hy with rfl | rfl | rfl | rfl
  · exact plain_d hb hn hl
  · exact far_w hb hn w hl
  · exact home_w hb hn w hl
  · exact near_w hb hn w hl
theorem wayT_len (hb : BookOk b) (w : Wr b n ln r G) (hl : landOf b home = some l) (y : List Nat) : ShortT 40 (wayT l home n G y) := by
  unfold wayT
  split
  · exact plain_len w
  split
  · exact far_len w
  split
  · exact home_len hb w hl
  · exact near_len w
def readT (b : List Land) (l : Land) (home t : List Nat) : List Num := match ppieces t with
  | none => []
  | some (pl, qs) => readL b l home pl qs
def aloneT (b : List Land) (l : Land) (home : List Nat) (n : Num) (t : List Nat) : Bool := decide (readT b l home t = [n])
theorem wayT_pp (hb : BookOk b) (w : Wr b n ln r G) (hl : landOf b home = some l) (y : List Nat) : ∃ pl qs, ppieces (wayT l home n G y) = some (pl, qs) := by
  unfold wayT
  split
  · exact ⟨_, _, pp_plain w⟩
  split
  · exact ⟨_, _, pp_far w⟩
  split
  · exact ⟨_, _, pp_home hb w hl⟩
  · exact ⟨_, _, pp_near w⟩
theorem eq_nums (a c : List Num) : eqD (.lst (a.map Dat.d)) (.lst (c.map Dat.d)) = .ok (.bl (decide (a = c))) := eqD_dat (α := List Num) a c
theorem eq_one (a : List Num) (n : Num) : eqD (.lst (a.map Dat.d)) (.lst [Dat.d n]) = .ok (.bl (decide (a = [n]))) := eq_nums a [n]
theorem ways_for_d (hb : BookOk b) (hn : numB b n = true) (w : Wr b n ln r G) (hl : landOf b home = some l) : den_ways_for [bookD b, Dat.d n, .str home] = .ok (.lst ((ws_WAYS.filter fun y => aloneT b l home n (wayT l home n G y)).map .str)) := by
  have nn := need_num hb.ok hn
  have nl := need_land_ok hb hl
  have lc : ∀ ρ : EnvD, ρ.length = 4 → ρ[0]? = some (some (bookD b)) → ρ[1]? = some (some (Dat.d n)) → ρ[2]? = some (some (.str home)) →
      lcG (.nm 3) (mB (m2 eqD (mCall den_readings_of (aCons (mVar 0) (aCons (mCall den_written (aCons (mVar 0) (aCons (mVar 1) (aCons (mVar 3) (aCons (mVar 2) (aNil)))))) (aCons (mVar 2) (aNil))))) (mLst (aCons (mVar 1) (aNil))))) (mVar 3) ρ (ws_WAYS.map .str) = .ok ((ws_WAYS.filter fun y => aloneT b l home n (wayT l home n G y)).map .str) := fun ρ h0 h1 h2 h3 => by
    refine lcG_map D.str (fun y => aloneT b l home n (wayT l home n G y)) D.str ws_WAYS fun y hy => ?_
    match ρ, h0 with
    | [a0, a1, a2, a3], _ =>
      simp at h1 h2 h3
      subst h1 h2 h3
      have wa := written_any hb hn w hl hy
      have rd := readings_of_d (few_of hb) hl ((wayT_len hb w hl y).txt (by decide))
      obtain ⟨pl, qs, hp⟩ := wayT_pp hb w hl y
      rw [hp] at rd
      simp only at rd
      have ea := eq_one (readL b l home pl qs) n
      have ed : aloneT b l home n (wayT l home n G y) = decide (readL b l home pl qs = [n]) := by unfold aloneT readT; rw [hp]
      refine ⟨_, bindT_nm, ?_, by simp⟩
      rw [ed]
      simp [wa, rd, ea]
  simp [den_ways_for, runB, m_ways_for, startS, nn, nl, iGF]
  rw [lc _ (by simp) (by simp) (by simp) (by simp)]
  simp
theorem shortest_d (hb : BookOk b) (hn : numB b n = true) (w : Wr b n ln r G) (hl : landOf b home = some l) {ys : List (List Nat)} (he : (ws_WAYS.filter fun y => aloneT b l home n (wayT l home n G y)) = ys) (hne : ys ≠ []) : ∃ pre t post, ys.map (wayT l home n G) = pre ++ t :: post ∧ (∀ u ∈ ys.map (wayT l home n G), t.length ≤ u.length) ∧ (∀ u ∈ pre, t.length < u.length) ∧ den_shortest [bookD b, Dat.d n, .str home] = .ok (.str t) := by
  obtain ⟨pre, t, post, e1, e2, e3, e4⟩ := min_d (ts := ys.map (wayT l home n G)) (by simpa using hne)
  refine ⟨pre, t, post, e1, e2, e3, ?_⟩
  have wf := ways_for_d hb hn w hl
  rw [he] at wf
  have lc : ∀ ρ : EnvD, ρ.length = 5 → ρ[0]? = some (some (bookD b)) → ρ[1]? = some (some (Dat.d n)) → ρ[2]? = some (some (.str home)) →
      lcG (.nm 4) bYes (mCall den_written (aCons (mVar 0) (aCons (mVar 1) (aCons (mVar 4) (aCons (mVar 2) (aNil)))))) ρ (ys.map .str) = .ok ((ys.map (wayT l home n G)).map .str) := fun ρ h0 h1 h2 h3 => by
    rw [List.map_map]
    refine lcG_all D.str _ ys fun y hy => ?_
    match ρ, h0 with
    | [a0, a1, a2, a3, a4], _ =>
      simp at h1 h2 h3
      subst h1 h2 h3
      have hy' : y ∈ ws_WAYS := by
        rw [← he] at hy
        exact (List.mem_filter.mp hy).1
      have wa := written_any hb hn w hl hy'
      exact ⟨_, bindT_nm, by simp [wa]⟩
  generalize ys.map (wayT l home n G) = ts at lc e4
  simp [den_shortest, runB, m_shortest, startS, wf]
  rw [lc _ (by simp) (by simp) (by simp) (by simp)]
  simp [e4]
theorem ne_same (s : List Nat) : neD (.str s) (.str s) = .ok (.bl false) := by
  rw [show neD (.str s) (.str s) = .ok (.bl (decide (s ≠ s))) from neD_dat (α := List Nat) s s]
  simp
theorem ne_strs (ss : List (List Nat)) : neD (.lst (ss.map .str)) (.lst (ss.map .str)) = .ok (.bl false) := by
  rw [show neD (.lst (ss.map .str)) (.lst (ss.map .str)) = .ok (.bl (decide (ss ≠ ss))) from neD_dat (α := List (List Nat)) ss ss]
  simp
theorem has_text (hb : BookOk b) (hl : landOf b home = some l) {t : List Nat} (ht : ShortT 40 t) {pl : Bool} {qs : List Pc} (hp : ppieces t = some (pl, qs)) (hin : n ∈ readL b l home pl qs) : ∃ R : List Num, den_readings [bookD b, .str t, .str home] = .ok (.lst (R.map Dat.d)) ∧ n ∈ R := by
  have rd := readings_d hb hl (ht.txt (by decide))
  rw [hp] at rd
  exact ⟨_, rd, hin⟩
end
end DL
namespace DL
/-! ## read, all_read, on data -/
def singleL : List Num → Option Num
  | [n] => some n
  | _ => none
/-- the only number that a text may mean -/
def singleT (b : List Land) (l : Land) (home s : List Nat) : Option Num := match ppieces s with
  | none => none
  | some (pl, qs) => singleL (readL b l home pl qs)
def readR : List Num → Res D
  | [] => .stk
  | [n] => .ok (Dat.d n)
  | _ => .stk
theorem read_d {b : List Land} (hb : BookOk b) {l : Land} {home : List Nat} (hl : landOf b home = some l) {s : List Nat} (hs : TxtOk s) : den_read [bookD b, .str s, .str home] = match ppieces s with
    | none => .stk
    | some (pl, qs) => readR (readL b l home pl qs) := by
  have r := readings_d hb hl hs
  cases hq : ppieces s with
  | none =>
    rw [hq] at r
    simp only at r
    simp [den_read, runB, m_read, startS, r]
  | some z =>
    obtain ⟨pl, qs⟩ := z
    rw [hq] at r
    simp only at r ⊢
    generalize readL b l home pl qs = L at r
    have en := eqD_nil (α := Num) L
    match L, r, en with
    | [], r, en => simp at en; simp [readR, den_read, runB, m_read, startS, r, en]
    | [n], r, en => simp at en; simp [readR, den_read, runB, m_read, startS, r, en]
    | n :: m :: k, r, en =>
      simp at en
      have h2 : (1 : Int) < ((n :: m :: k).map (Dat.d (α := Num))).length := by simp; omega
      have h3 : gtD (.int ((n :: m :: k).map (Dat.d (α := Num))).length) (.int 1) = .ok (.bl true) := by rw [gt_int, decide_eq_true h2]
      have e2 : lenF [.lst ((n :: m :: k).map (Dat.d (α := Num)))] = .ok (.int ((n :: m :: k).map (Dat.d (α := Num))).length) := rfl
      generalize (((n :: m :: k).map (Dat.d (α := Num))).length : Int) = ln at h3 e2
      simp only [List.map_cons] at r e2
      simp [readR, -len_lst, den_read, runB, m_read, startS, r, en, e2, h3]
end DL
namespace DL
/-! ## k42: one number, one home -/
section
variable {b : List Land} {n : Num} {ln : Land} {r : Row} {G : List (List Nat)} {l : Land} {home : List Nat}
/-- the slots -/
abbrev st (s0 s1 s2 : Sl) (b : List Land) (s4 : Sl) (n : Num) (ln : Land) (home : List Nat) (s8 s9 s10 s11 s12 s13 : Sl) : EnvS := [s0, s1, s2, .val (bookD b), s4, .val (Dat.d n), .val (Dat.d ln), .val (.str home), s8, s9, s10, s11, s12, s13]
theorem in_of {t : List Nat} {R : List Num} (h : den_readings [bookD b, .str t, .str home] = .ok (.lst (R.map Dat.d))) (hin : n ∈ R) : notInD (Dat.d n) (.lst (R.map Dat.d)) = .ok (.bl false) := by
  rw [notIn_eq, inD_dat n R, decide_eq_true hin]
  rfl
theorem way_has (hb : BookOk b) (hn : numB b n = true) (w : Wr b n ln r G) (hl : landOf b home = some l) {y : List Nat} (hy : y = wP ∨ y = wF) : ∃ R : List Num, den_readings [bookD b, .str (wayT l home n G y), .str home] = .ok (.lst (R.map Dat.d)) ∧ n ∈ R := by
  have hf := far_has hb hn l home false
  rcases hy with rfl | rfl
  · exact has_text hb hl (plain_len w) (pp_plain w) hf
  · exact has_text hb hl (far_len w) (pp_far w) hf
theorem step1 (hb : BookOk b) (hn : numB b n = true) (w : Wr b n ln r G) (hl : landOf b home = some l) {y : List Nat} (hy : y = wP ∨ y = wF) (s0 s1 s2 s4 s9 s10 s11 s12 s13 : Sl) : b_law_1 (st s0 s1 s2 b s4 n ln home (.val (.str y)) s9 s10 s11 s12 s13) = .next (st s0 s1 s2 b s4 n ln home (.val (.str y)) (.val (.str (wayT l home n G y))) s10 s11 s12 s13) := by
  have hy' : y ∈ ws_WAYS := by rcases hy with rfl | rfl <;> decide
  have c0 : ixD (Dat.d ln) (.int 0) = .ok (.str n.1) := by rw [land_d]; simp [w.lc]
  have a1 := written_any hb hn w hl hy'
  have a2 := written_any hb hn w w.land hy'
  have e : wayT ln n.1 n G y = wayT l home n G y := by rcases hy with rfl | rfl <;> rfl
  rw [e] at a2
  obtain ⟨R, h1, h2⟩ := way_has hb hn w hl hy
  have inn := in_of h1 h2
  have ne := ne_same (wayT l home n G y)
  simp [-notIn_eq, b_law_1, a1, a2, c0, h1, inn, ne]
theorem step2 {t : List Nat} {R : List Num} (h : den_readings [bookD b, .str t, .str home] = .ok (.lst (R.map Dat.d))) (hin : n ∈ R) (s0 s1 s2 s4 s8 s10 s11 s12 s13 : Sl) : b_law_2 (st s0 s1 s2 b s4 n ln home s8 (.val (.str t)) s10 s11 s12 s13) = .next (st s0 s1 s2 b s4 n ln home s8 (.val (.str t)) s10 s11 s12 s13) := by
  have inn := in_of h hin
  simp [b_law_2, -notIn_eq, h, inn]
theorem step3 (hb : BookOk b) (hn : numB b n = true) (w : Wr b n ln r G) (hl : landOf b home = some l) {y : List Nat} (hy : y ∈ ws_WAYS) (s0 s1 s2 s4 s9 s11 s12 s13 : Sl) : ∃ y11, b_law_3 (st s0 s1 s2 b s4 n ln home (.val (.str y)) s9 (.val (.lst ((ws_WAYS.filter fun y => aloneT b l home n (wayT l home n G y)).map .str))) s11 s12 s13) = .next (st s0 s1 s2 b s4 n ln home (.val (.str y)) (.val (.str (wayT l home n G y))) (.val (.lst ((ws_WAYS.filter fun y => aloneT b l home n (wayT l home n G y)).map .str))) y11 s12 s13) := by
  have a1 := written_any hb hn w hl hy
  obtain ⟨pl, qs, hp⟩ := wayT_pp hb w hl y
  have rd := readings_d hb hl ((wayT_len hb w hl y).txt (by decide))
  have rr := read_d hb hl ((wayT_len hb w hl y).txt (by decide))
  rw [hp] at rd rr
  simp only at rd rr
  have ea := eq_one (readL b l home pl qs) n
  have ed : aloneT b l home n (wayT l home n G y) = decide (readL b l home pl qs = [n]) := by unfold aloneT readT; rw [hp]
  rw [← ed] at ea
  have sh := shortest_d hb hn w hl rfl
  have iy : inD (.str y) (.lst ((ws_WAYS.filter fun y => aloneT b l home n (wayT l home n G y)).map .str)) = .ok (.bl (decide (y ∈ ws_WAYS.filter fun y => aloneT b l home n (wayT l home n G y)))) := inD_dat (α := List Nat) y _
  rw [show decide (y ∈ ws_WAYS.filter fun y => aloneT b l home n (wayT l home n G y)) = aloneT b l home n (wayT l home n G y) by
    rw [Bool.eq_iff_iff, decide_eq_true_eq, List.mem_filter]
    exact ⟨fun h => h.2, fun h => ⟨hy, h⟩⟩] at iy
  have hmem : aloneT b l home n (wayT l home n G y) = true → y ∈ ws_WAYS.filter fun y => aloneT b l home n (wayT l home n G y) := fun h => List.mem_filter.mpr ⟨hy, h⟩
  have hone : aloneT b l home n (wayT l home n G y) = true → readL b l home pl qs = [n] := fun h => by rw [ed, decide_eq_true_eq] at h; exact h
  generalize (ws_WAYS.filter fun y => aloneT b l home n (wayT l home n G y)) = ys at sh iy hmem ⊢
  generalize aloneT b l home n (wayT l home n G y) = al at ea iy hmem hone
  have nb : neD (.bl al) (.bl al) = .ok (.bl false) := by cases al <;> rfl
  refine ⟨.val (.bl al), ?_⟩
  by_cases ha : al = true
  · subst ha
    have hm := hmem rfl
    rw [hone rfl] at rd rr ea
    simp only [List.map_cons, List.map_nil] at rd ea
    obtain ⟨pre, t, post, g1, g2, g3, g4⟩ := sh (List.ne_nil_of_mem hm)
    have gl := g2 _ (List.mem_map_of_mem hm)
    have gt : gtD (.int (t.length : Int)) (.int ((wayT l home n G y).length : Int)) = .ok (.bl false) := by
      show Res.ok (D.bl (decide _)) = _
      rw [decide_eq_false (by omega)]
    have nn : neD (Dat.d n) (Dat.d n) = .ok (.bl false) := by
      rw [show neD (Dat.d n) (Dat.d n) = .ok (.bl (decide (n ≠ n))) from neD_dat (α := Num) n n]
      simp
    simp [b_law_3, a1, rd, ea, iy, nb, rr, readR, nn, g4, gt]
  · have ha : al = false := by simpa using ha
    subst ha
    simp [b_law_3, a1, rd, ea, iy, nb]
theorem step4 (hb : BookOk b) (hn : numB b n = true) (w : Wr b n ln r G) (hl : landOf b home = some l) (s0 s1 s2 s4 s8 s9 s10 s11 s12 s13 : Sl) : ∃ y8 y9 y10 y11 y12, b_law_4 (st s0 s1 s2 b s4 n ln home s8 s9 s10 s11 s12 s13) = .next (st s0 s1 s2 b s4 n ln home y8 y9 y10 y11 y12 s13) := by
  obtain ⟨ρ1, e1, x8, x9, rfl⟩ := forS_inv (g := .nm 8) (body := b_law_1) D.str (fun _ ρ => ∃ y8 y9 : Sl, ρ = st s0 s1 s2 b s4 n ln home y8 y9 s10 s11 s12 s13) [wP, wF] 0 (st s0 s1 s2 b s4 n ln home s8 s9 s10 s11 s12 s13) ⟨s8, s9, rfl⟩ (fun i y ρ hk ⟨y8, y9, hρ⟩ => by
    subst hρ
    have hy : y = wP ∨ y = wF := by simpa using List.mem_of_getElem? hk
    exact ⟨_, _, by rw [bindT_nm]; rfl, .inl (step1 hb hn w hl hy _ _ _ _ _ _ _ _ _), _, _, rfl⟩)
  have hf := far_has hb hn l home false
  have hh := home_has (l := l) (home := home) hn w false
  obtain ⟨R1, hR1, hi1⟩ := has_text hb hl (link_len w) (pp_link w) hf
  obtain ⟨R2, hR2, hi2⟩ := has_text hb hl ((dial_short hb hn hl).mono (by decide)) (pp_dial hb hn hl) hh
  obtain ⟨ρ2, e2, x9', rfl⟩ := forS_inv (g := .nm 9) (body := b_law_2) D.str (fun _ ρ => ∃ y9 : Sl, ρ = st s0 s1 s2 b s4 n ln home x8 y9 s10 s11 s12 s13) [linkT n G, dialL l home n] 0 (st s0 s1 s2 b s4 n ln home x8 x9 s10 s11 s12 s13) ⟨x9, rfl⟩ (fun i t ρ hk ⟨y9, hρ⟩ => by
    subst hρ
    have ht : t = linkT n G ∨ t = dialL l home n := by simpa using List.mem_of_getElem? hk
    refine ⟨st s0 s1 s2 b s4 n ln home x8 (.val (.str t)) s10 s11 s12 s13, st s0 s1 s2 b s4 n ln home x8 (.val (.str t)) s10 s11 s12 s13, by rw [bindT_nm]; rfl, .inl ?_, .val (.str t), rfl⟩
    rcases ht with rfl | rfl
    · exact step2 hR1 hi1 _ _ _ _ _ _ _ _ _
    · exact step2 hR2 hi2 _ _ _ _ _ _ _ _ _)
  have wf := ways_for_d hb hn w hl
  obtain ⟨ρ3, e3, x8', x9'', x11, rfl⟩ := forS_inv (g := .nm 8) (body := b_law_3) D.str (fun _ ρ => ∃ y8 y9 y11 : Sl, ρ = st s0 s1 s2 b s4 n ln home y8 y9 (.val (.lst ((ws_WAYS.filter fun y => aloneT b l home n (wayT l home n G y)).map .str))) y11 s12 s13) ws_WAYS 0 (st s0 s1 s2 b s4 n ln home x8 x9' (.val (.lst ((ws_WAYS.filter fun y => aloneT b l home n (wayT l home n G y)).map .str))) s11 s12 s13) ⟨x8, x9', s11, rfl⟩ (fun i y ρ hk ⟨y8, y9, y11, hρ⟩ => by
    subst hρ
    have hy : y ∈ ws_WAYS := List.mem_of_getElem? hk
    obtain ⟨z11, h⟩ := step3 hb hn w hl hy s0 s1 s2 s4 y9 y11 s12 s13
    exact ⟨_, _, by rw [bindT_nm]; rfl, .inl h, _, _, _, rfl⟩)
  have n1 : ixD (Dat.d n) (.int 1) = .ok (.str n.2) := by simp [num_d]
  have c0 : ixD (Dat.d ln) (.int 0) = .ok (.str n.1) := by rw [land_d]; simp [w.lc]
  have l2 : ixD (Dat.d ln) (.int 2) = .ok (.str ln.trunk) := by simp [land_d]
  obtain ⟨d1, d2, d3⟩ := landB_all (book_land hb w.mem)
  have a1 := add_short d3 w.digS
  have lk := linked_w hb hn w
  have dl := dialled_d hb hn hl
  have e4 := eq_str home n.1
  have gd : home = n.1 → dialL l home n = ln.trunk ++ n.2 := fun h => by
    have : l = ln := by
      have h2 := w.land
      rw [← h, hl] at h2
      exact Option.some.inj h2
    unfold dialL
    rw [if_pos h.symm, this]
  have f1 := far_w hb hn w hl
  have f2 := plain_d hb hn hl
  have f3 := home_w hb hn w hl
  have p1 : ([43] ++ n.1 ++ n.2 : List Nat) = plainT n := rfl
  rw [p1] at f2
  have r1 := replF_ok (repl_far0 w) (plain_len w) (by have := (far_len w).1; omega) (by decide)
  have r2 := replF_ok (repl_home0 hb w hl) ((dial_short hb hn hl).mono (by decide)) (by have := (home_len hb w hl).1; omega) (by decide)
  have ne1 := ne_same (plainT n)
  have ne2 := ne_same (dialL l home n)
  generalize hT : ln.trunk ++ n.2 = T at a1 gd
  generalize hW : D.lst ((ws_WAYS.filter fun y => aloneT b l home n (wayT l home n G y)).map .str) = W at *
  have fW : isFlat W = false := by rw [← hW]; rfl
  simp only [List.map_cons, List.map_nil] at e1 e2
  have eWS : ws_WAYS.map D.str = [D.str [112, 108, 97, 105, 110], D.str [102, 97, 114], D.str [104, 111, 109, 101], D.str [110, 101, 97, 114]] := rfl
  rw [eWS] at e3
  refine ⟨x8', x9'', .val W, x11, .val (.str T), ?_⟩
  simp [b_law_4]
  rw [e1]
  simp [lk, dl]
  rw [e2]
  simp [wf]
  rw [e3]
  by_cases c : home = n.1
  · rw [decide_eq_true c] at e4
    rw [gd c] at ne2 dl r2
    simp [l2, n1, a1, -add_str, c0, e4, gd c, ne2, dl, f1, f2, f3, r1, r2, ne1]
  · rw [decide_eq_false c] at e4
    simp [l2, n1, a1, -add_str, c0, e4, ne2, dl, f1, f2, f3, r1, r2, ne1]
theorem own_first (w : Wr b n ln r G) : ∃ rest, (b.filter fun x => decide (x.code = n.1)) = ln :: rest := by
  have h := w.land
  unfold landOf at h
  rw [← List.head?_filter] at h
  cases hf : (b.filter fun x => decide (x.code = n.1)) with
  | nil => rw [hf] at h; cases h
  | cons y t =>
    rw [hf] at h
    rw [List.head?_cons, Option.some.injEq] at h
    exact ⟨t, by rw [h]⟩
theorem step5 (hb : BookOk b) (more j : Int) (s0 s1 s5 s6 s7 s8 s9 s10 s11 s12 s13 : Sl) : ∃ y5 y6 y7 y8 y9 y10 y11 y12 y13, b_law_5 [s0, s1, .val (.int more), .val (bookD b), .val (.int j), s5, s6, s7, s8, s9, s10, s11, s12, s13] = .next [s0, s1, .val (.int more), .val (bookD b), .val (.int j), y5, y6, y7, y8, y9, y10, y11, y12, y13] := by
  generalize hH : drawn more (30 + j) = here
  obtain ⟨n, e3, h3, h4, h5, h6, h7⟩ := number_ok hb here
  obtain ⟨ln, r, G, w⟩ := wr_of hb h3
  have dd : addD (.int 30) (.int j) = .ok (.int (30 + j)) := by simp
  have n0 : ixD (Dat.d n) (.int 0) = .ok (.str n.1) := by simp [num_d]
  obtain ⟨rest, hr⟩ := own_first w
  have lc : ∀ ρ : EnvD, ρ.length = 14 → ρ[5]? = some (some (Dat.d n)) → lcG (.nm 13) (mB (m2 eqD (m2 ixD (mVar 13) (mC (.int 0))) (m2 ixD (mVar 5) (mC (.int 0))))) (mVar 13) ρ (b.map Dat.d) = .ok (Dat.d ln :: rest.map Dat.d) := fun ρ h h0 => by
    rw [show Dat.d ln :: rest.map Dat.d = (b.filter fun x => decide (x.code = n.1)).map Dat.d by rw [hr]; rfl]
    refine lcG_map Dat.d (fun x : Land => decide (x.code = n.1)) Dat.d b fun y hy => ?_
    match ρ, h with
    | [a0, a1, a2, a3, a4, a5, a6, a7, a8, a9, a10, a11, a12, a13], _ =>
      simp at h0
      subst h0
      have c0 : ixD (Dat.d y) (.int 0) = .ok (.str y.code) := by rw [land_d]; simp
      have es := eq_str y.code n.1
      refine ⟨_, bindT_nm, ?_, by simp⟩
      simp [c0, n0, es]
  have lh : ∀ ρ : EnvD, ρ.length = 14 → lcG (.nm 13) bYes (m2 ixD (mVar 13) (mC (.int 0))) ρ (b.map Dat.d) = .ok (b.map fun x => D.str x.code) := fun ρ h => by
    refine lcG_all Dat.d _ b fun y hy => ?_
    match ρ, h with
    | [a0, a1, a2, a3, a4, a5, a6, a7, a8, a9, a10, a11, a12, a13], _ =>
      have c0 : ixD (Dat.d y) (.int 0) = .ok (.str y.code) := by rw [land_d]; simp
      exact ⟨_, bindT_nm, by simp [c0]⟩
  have f6 := few_of hb
  have bl : b.length ≤ 1000000 := by omega
  have fx : rest.length ≤ 1000000 := by
    have := List.length_filter_le (fun x : Land => decide (x.code = n.1)) b
    rw [hr, List.length_cons] at this
    omega
  obtain ⟨ρ1, e1, y7, y8, y9, y10, y11, y12, rfl⟩ := forS_inv (g := .nm 7) (body := b_law_4) (fun x : Land => D.str x.code) (fun _ ρ => ∃ y7 y8 y9 y10 y11 y12 : Sl, ρ = [s0, s1, .val (.int more), .val (bookD b), .val (.int j), .val (Dat.d n), .val (Dat.d ln), y7, y8, y9, y10, y11, y12, s13]) b 0 [s0, s1, .val (.int more), .val (bookD b), .val (.int j), .val (Dat.d n), .val (Dat.d ln), s7, s8, s9, s10, s11, s12, s13] ⟨s7, s8, s9, s10, s11, s12, rfl⟩ (fun i x ρ hk ⟨y7, y8, y9, y10, y11, y12, hρ⟩ => by
    subst hρ
    have hl := landOf_mem hb.once (List.mem_of_getElem? hk)
    obtain ⟨z8, z9, z10, z11, z12, h⟩ := step4 hb h3 w hl s0 s1 (.val (.int more)) (.val (.int j)) y8 y9 y10 y11 y12 s13
    exact ⟨_, _, by rw [bindT_nm]; rfl, .inl h, _, _, _, _, _, _, rfl⟩)
  have ib : iterT (bookD b) = .ok (b.map Dat.d) := rfl
  refine ⟨.val (Dat.d n), .val (Dat.d ln), y7, y8, y9, y10, y11, y12, s13, ?_⟩
  simp [b_law_5, dd, drawn_eq, hH, e3, ib]
  rw [lc _ (by simp) (by simp)]
  simp [ib]
  rw [lh _ (by simp)]
  simp [e1]
end
theorem iter (ns : List Int) (hl : ns.length ≤ 63) (k : Int) (rest : List Sl) (hr : rest.length = 12) : ∃ rest', b_law_6 (.val (.scr ns) :: .val (.int k) :: rest) = .next (.val (.scr ns) :: rest') ∧ rest'.length = 13 := by
  obtain ⟨c, ec⟩ := cell_ok ns k hl
  generalize hM : drawn c k = more
  have f64 : fdivD (.int more) (.int 64) = .ok (.int (more / 64)) := fdiv_m
  obtain ⟨b, eb, hb⟩ := book_ok (more / 64)
  have r4 : rng1F [.int 4] = .ok ((List.range 4).map fun i : Nat => .int (i : Int)) := by
    rw [rng1_int, if_pos (by decide), upTo0]; rfl
  match rest, hr with
  | [x2, x3, x4, x5, x6, x7, x8, x9, x10, x11, x12, x13], _ =>
    obtain ⟨ρ1, e1, y4, y5, y6, y7, y8, y9, y10, y11, y12, y13, hρ⟩ := forS_inv (g := .nm 4) (body := b_law_5) (fun i : Nat => D.int (i : Int)) (fun i ρ => ∃ y4 y5 y6 y7 y8 y9 y10 y11 y12 y13 : Sl, ρ = [.val (.scr ns), .val (.int k), .val (.int more), .val (bookD b), y4, y5, y6, y7, y8, y9, y10, y11, y12, y13]) (List.range 4) 0
      [.val (.scr ns), .val (.int k), .val (.int more), .val (bookD b), x4, x5, x6, x7, x8, x9, x10, x11, x12, x13] ⟨x4, x5, x6, x7, x8, x9, x10, x11, x12, x13, rfl⟩ (fun i x ρ hk ⟨y4, y5, y6, y7, y8, y9, y10, y11, y12, y13, hρ⟩ => by
        subst hρ
        obtain ⟨w5, w6, w7, w8, w9, w10, w11, w12, w13, h2⟩ := step5 hb more (x : Int) (.val (.scr ns)) (.val (.int k)) y5 y6 y7 y8 y9 y10 y11 y12 y13
        exact ⟨[.val (.scr ns), .val (.int k), .val (.int more), .val (bookD b), .val (.int (x : Int)), y5, y6, y7, y8, y9, y10, y11, y12, y13], _, by simp, .inl h2, _, _, _, _, _, _, _, _, _, _, rfl⟩)
    subst hρ
    have fb : isFlat (bookD b) = false := rfl
    simp [freeze, b_law_6, -fdiv_int, -mod_int, -rng1_int, ec, drawn_eq, hM, f64, eb, r4, fb, e1]
theorem law_true (ns : List Int) (hl : ns.length ≤ 63) (_ : ∀ z ∈ ns, PySem.Builtin.Int.intBits z ≤ 1048576) : den_law [.scr ns] = .ok (.bl true) := by
  have lenS : lenF [.scr ns] = .ok (.int (ns.length : Int)) := rfl
  have hl' : 0 ≤ (ns.length : Int) ∧ (ns.length : Int) ≤ 63 := by omega
  generalize (ns.length : Int) = n at hl' lenS
  simp [den_law, runB, m_law, startS, -len_scr, lenS]
  generalize hM : (if 1 < (if n < 3 then n else 3) then (if n < 3 then n else 3) else 1) = m
  have hm : 1 ≤ m ∧ m ≤ 3 := by
    rw [← hM]
    split <;> split <;> omega
  rw [if_pos (by omega)]
  simp [upTo0]
  obtain ⟨ρ', e, _⟩ := forS_inv (g := .nm 1) (body := b_law_6) (fun i : Nat => D.int (i : Int)) (fun _ ρ => ∃ rest : List Sl, ρ = .val (.scr ns) :: rest ∧ rest.length = 13) (List.range m.toNat) 0 (.val (.scr ns) :: List.replicate 13 .no) ⟨_, rfl, by simp⟩ (fun k x ρ hk ⟨rest, hρ, hr⟩ => by
    subst hρ
    match rest, hr with
    | a :: rest, hr =>
      obtain ⟨rest', e, h'⟩ := iter ns hl (x : Int) rest (by simpa using hr)
      exact ⟨.val (.scr ns) :: .val (.int (x : Int)) :: rest, .val (.scr ns) :: rest', by simp, .inl e, rest', rfl, h'⟩)
  simp [List.replicate] at e
  rw [e]
  simp
end DL
namespace DL
open PySem PySem.Spec PyProof.Rows L2 LamX
theorem run (w : World) : HandSHeadRun.RunEq R (PySem.W.view R.prog [59]) hk ob 6000 loose w := by
  intro os
  kernel_rfl
theorem law_at (w : World) (mg : Str → Option Value) (a : Addr) (h : Heap) (Y : hk.says w h) (GG : h.Ns mainGlobals mg) (hmg : mg ("law" : Str) = some (.ref a)) :
    ∃ K : PySem.W.Frag, K.In h ∧ LawAtS PySem.Challenge.rw_dialtables_k42_whole_from_any_home w K (L2N.CX PySem.Challenge.rw_dialtables_k42_whole_from_any_home.prog w) 10 63 "_law_script" mg a h := by
  obtain ⟨K, KX, c0⟩ := Y
  have c := c0.t.d
  have e0 := c0.more
  unfold exB at e0
  obtain ⟨e1, e2⟩ := Bool.and_eq_true_iff.mp e0
  obtain ⟨e2, tg⟩ := Bool.and_eq_true_iff.mp e2
  obtain ⟨fd, hb, hF⟩ := ok_law (P := PySem.Challenge.rw_dialtables_k42_whole_from_any_home.prog) (w := w) (T := tabsOf K tq) KX GG c (clsXB_ok e1) tg
  have e := hmg.symm.trans (He.glo_ok KX GG (c.fact 62 (f := .glo "law") rfl))
  cases e
  exact ⟨K, KX, lawAtL fd (by rw [sizeLine_eq]; decide) c0.empty c0.out (fun p hp => PySem.W.codeHd_of_K KX (c0.hd p hp)) (of_decide_eq_true e2) hb law_true fun base lt => hF base lt⟩
end DL
open PySem PySem.W PySem.Calls PyProof.Rows in
theorem PySem.Challenge.cw_dialtables_k42_whole_from_any_home_holds : PySem.Challenge.rw_dialtables_k42_whole_from_any_home.Holds := by
  w_on; o_law
  refine HandSHeadRun.head_any (r := OpenLaw.row PySem.Challenge.rw_dialtables_k42_whole_from_any_home) (q := view (OpenLaw.row PySem.Challenge.rw_dialtables_k42_whole_from_any_home).prog [59]) (H := DL.hk) (ob := DL.ob) (M := 6000) (loose := DL.loose) (d := HandSHeadRun.topDef (OpenLaw.row PySem.Challenge.rw_dialtables_k42_whole_from_any_home).prog 59) (kwd := []) DL.ob_eq
    (by kernel_rfl) (fun s => by kernel_rfl) DL.run (by kernel_rfl) (by kernel_rfl) (by kernel_rfl) (by rfl) (by first | assumption | decide +kernel) (by decide +kernel) ⟨rfl, rfl, rfl, rfl, rfl, by decide +kernel⟩ ?hw ?hc
  case hw => w_witness2
  case hc =>
    refine LamX.walk_ofTsE (l := PySem.Challenge.rw_dialtables_k42_whole_from_any_home) (n := 63) (k := 10) (x := "_law_script") (CX := fun w => L2N.CX PySem.Challenge.rw_dialtables_k42_whole_from_any_home.prog w) rfl (by decide) (by kernel_rfl) ⟨rfl, by decide, by decide⟩ ?F (fun w H s e s' ⟨_, _, _, _, _, _, _, _, _, _, _, _, z⟩ => z)
    intro w mg fa h Y G hmg0
    have hmg : mg ("law" : PySem.Str) = some (.ref fa) := by
      have e : (HandSHeadRun.topDef (OpenLaw.row PySem.Challenge.rw_dialtables_k42_whole_from_any_home).prog 59).name = ("law" : PySem.Str) := by kernel_rfl
      rw [← e]
      exact hmg0
    exact DL.law_at w mg fa h Y G hmg
