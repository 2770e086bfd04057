import PyProof.Rows.All
import Wide.All
import OpenK.AllK
import Wide.FinOn
import HandS.ForMost
import HandS.ForExc
import HandS.CallSlots
import HandS.Wide
import HandS.TupAny
import HandS.Strs
import HandS.IsInst
import HandS.Style
import KE.GoesEnum
import HandS.Zip
import HandS.More
import KE.KDictList
import HandS.ExcInit
import HandS.ExcField
import KE.GoesMore
import KE.GoesZip
import HandS.TupMul
import PySem.Challenge.RW_versionhouse_k67_plain_questions_refused
set_option Elab.async false
set_option linter.all false
set_option maxRecDepth 100000
set_option maxHeartbeats 4000000
namespace VH
open PySem PySem.Spec PyProof.Rows L2

abbrev D := PyData
abbrev FA := Addr → Prop
def kD : Key → D
  | .inl i => .int i
  | .inr x => .str x
def FL (H : Hp) (F : FA) (a : Addr) (xs : List V) : Prop := F a ∧ H a = some (.lst xs)
def FT (K : PySem.W.Frag) (H : Hp) (F : FA) (a : Addr) (xs : List V) : Prop := (F a ∧ H a = some (.tup xs)) ∨ SqT K (fun _ => none) a xs
def FK (H : Hp) (F : FA) (a : Addr) (kvs : List (Key × V)) : Prop := F a ∧ Rd H a (.dK kvs)
mutual
inductive Rep (K : PySem.W.Frag) (H : Hp) (F : FA) : V → D → Prop
  | non : Rep K H F .non .none
  | bl (b : Bool) : Rep K H F (.bl b) (.bool b)
  | int (i : Int) : Rep K H F (.int i) (.int i)
  | str (x : Str) : Rep K H F (.str x) (.str x)
  | lst {a : Addr} {xs : List V} {ds : List D} : FL H F a xs → RepA K H F xs ds → Rep K H F (.ref a) (.list ds)
  | tup {a : Addr} {xs : List V} {ds : List D} : FT K H F a xs → RepA K H F xs ds → Rep K H F (.ref a) (.tuple ds)
  | dic {a : Addr} {kvs : List (Key × V)} {ds : List (D × D)} : FK H F a kvs → RepK K H F kvs ds → Rep K H F (.ref a) (.dict ds)
inductive RepA (K : PySem.W.Frag) (H : Hp) (F : FA) : List V → List D → Prop
  | nil : RepA K H F [] []
  | cons {v : V} {d : D} {vs : List V} {ds : List D} : Rep K H F v d → RepA K H F vs ds → RepA K H F (v :: vs) (d :: ds)
inductive RepK (K : PySem.W.Frag) (H : Hp) (F : FA) : List (Key × V) → List (D × D) → Prop
  | nil : RepK K H F [] []
  | cons {k : Key} {v : V} {d : D} {vs : List (Key × V)} {ds : List (D × D)} : Rep K H F v d → RepK K H F vs ds → RepK K H F ((k, v) :: vs) ((kD k, d) :: ds)
end
theorem nfzK {kvs : List (Key × V)} (o : Obj) (w : HO) : HO.dK kvs ≠ .frz o w := fun z => nomatch z
theorem nfzL {xs : List V} (o : Obj) (w : HO) : HO.lst xs ≠ .frz o w := fun z => nomatch z
/-- the frozen part is the same, but for locks -/
structure Stb (H : Hp) (F : FA) (H' : Hp) (F' : FA) : Prop where
  un : ∀ a u, F a → H a = some u → (∀ o w, u ≠ .frz o w) → (∀ kvs, u ≠ .dK kvs) → H' a = some u
  rd : ∀ a u, F a → (∀ o w, u ≠ .frz o w) → Rd H a u → Rd H' a u
  fz : ∀ a, F a → F' a
mutual
theorem Rep.mono {K : PySem.W.Frag} {H H' : Hp} {F F' : FA} (s : Stb H F H' F') : ∀ {v : V} {d : D}, Rep K H F v d → Rep K H' F' v d
  | _, _, .non => .non
  | _, _, .bl b => .bl b
  | _, _, .int i => .int i
  | _, _, .str x => .str x
  | _, _, .lst ⟨f, e⟩ r => .lst ⟨s.fz _ f, s.un _ _ f e (fun _ _ q => nomatch q) fun _ q => nomatch q⟩ (RepA.mono s r)
  | _, _, .tup (.inl ⟨f, e⟩) r => .tup (.inl ⟨s.fz _ f, s.un _ _ f e (fun _ _ q => nomatch q) fun _ q => nomatch q⟩) (RepA.mono s r)
  | _, _, .tup (.inr q) r => .tup (.inr q) (RepA.mono s r)
  | _, _, .dic ⟨f, e⟩ r => .dic ⟨s.fz _ f, s.rd _ _ f nfzK e⟩ (RepK.mono s r)
theorem RepA.mono {K : PySem.W.Frag} {H H' : Hp} {F F' : FA} (s : Stb H F H' F') : ∀ {v : List V} {d : List D}, RepA K H F v d → RepA K H' F' v d
  | _, _, .nil => .nil
  | _, _, .cons h t => .cons (Rep.mono s h) (RepA.mono s t)
theorem RepK.mono {K : PySem.W.Frag} {H H' : Hp} {F F' : FA} (s : Stb H F H' F') : ∀ {v : List (Key × V)} {d : List (D × D)}, RepK K H F v d → RepK K H' F' v d
  | _, _, .nil => .nil
  | _, _, .cons h t => .cons (Rep.mono s h) (RepK.mono s t)
end
theorem FT.sq {K : PySem.W.Frag} {H : Hp} {F : FA} {a : Addr} {xs : List V} (h : FT K H F a xs) : SqT K H a xs := by
  rcases h with ⟨_, h⟩ | h
  · exact .inl (.inl h)
  · rcases h with (h | ⟨o, h⟩) | h
    · cases h
    · cases h
    · exact .inr h
theorem FL.sq {K : PySem.W.Frag} {H : Hp} {F : FA} {a : Addr} {xs : List V} (h : FL H F a xs) : SqL K H a xs := .inl (.inl h.2)
theorem RepA.length {K : PySem.W.Frag} {H : Hp} {F : FA} : ∀ {vs : List V} {ds : List D}, RepA K H F vs ds → vs.length = ds.length
  | _, _, .nil => rfl
  | _, _, .cons _ t => by rw [List.length_cons, List.length_cons, RepA.length t]
theorem RepA.get {K : PySem.W.Frag} {H : Hp} {F : FA} : ∀ {vs : List V} {ds : List D} {i : Nat} {d : D}, RepA K H F vs ds → ds[i]? = some d → ∃ v, vs[i]? = some v ∧ Rep K H F v d
  | _, _, _, _, .nil, e => by simp at e
  | _, _, 0, _, .cons h _, e => by simp at e; subst e; exact ⟨_, rfl, h⟩
  | _, _, i + 1, _, .cons _ t, e => by
    obtain ⟨v, e1, r⟩ := RepA.get (i := i) t (by simpa using e)
    exact ⟨v, by simpa using e1, r⟩
theorem RepA.got {K : PySem.W.Frag} {H : Hp} {F : FA} : ∀ {vs : List V} {ds : List D} {i : Nat} {v : V}, RepA K H F vs ds → vs[i]? = some v → ∃ d, ds[i]? = some d ∧ Rep K H F v d
  | _, _, _, _, .nil, e => by simp at e
  | _, _, 0, _, .cons h _, e => by simp at e; subst e; exact ⟨_, rfl, h⟩
  | _, _, i + 1, _, .cons _ t, e => by
    obtain ⟨v, e1, r⟩ := RepA.got (i := i) t (by simpa using e)
    exact ⟨v, by simpa using e1, r⟩
theorem RepA.append {K : PySem.W.Frag} {H : Hp} {F : FA} : ∀ {vs ws : List V} {ds es : List D}, RepA K H F vs ds → RepA K H F ws es → RepA K H F (vs ++ ws) (ds ++ es)
  | _, _, _, _, .nil, h => h
  | _, _, _, _, .cons h t, q => .cons h (RepA.append t q)
theorem RepA.take {K : PySem.W.Frag} {H : Hp} {F : FA} : ∀ {vs : List V} {ds : List D} (n : Nat), RepA K H F vs ds → RepA K H F (vs.take n) (ds.take n)
  | _, _, 0, _ => .nil
  | _, _, _ + 1, .nil => .nil
  | _, _, n + 1, .cons h t => .cons h (RepA.take n t)
theorem RepA.drop {K : PySem.W.Frag} {H : Hp} {F : FA} : ∀ {vs : List V} {ds : List D} (n : Nat), RepA K H F vs ds → RepA K H F (vs.drop n) (ds.drop n)
  | _, _, 0, r => r
  | _, _, _ + 1, .nil => .nil
  | _, _, n + 1, .cons _ t => RepA.drop n t

/-! ### what a frame's slot owns -/
inductive O where
  | sh (d : D)
  | lst (xs : List D)
  | dic (kvs : List (Key × O))
  | scr (ns : List Int)
mutual
def fz : O → D
  | .sh d => d
  | .lst xs => .list xs
  | .dic kvs => .dict (fzK kvs)
  | .scr ns => .list (ns.map .int)
def fzK : List (Key × O) → List (D × D)
  | [] => []
  | (k, o) :: r => (kD k, fz o) :: fzK r
end
/-- may it be frozen? -/
def O.isScr : O → Bool
  | .scr _ => true
  | _ => false
mutual
inductive RO (K : PySem.W.Frag) (H : Hp) (F : FA) : V → O → List Addr → Prop
  | sh {v : V} {d : D} : Rep K H F v d → RO K H F v (.sh d) []
  | lst {a : Addr} {xs : List V} {ds : List D} : H a = some (.lst xs) → ¬ F a → RepA K H F xs ds → RO K H F (.ref a) (.lst ds) [a]
  | dic {a : Addr} {kvs : List (Key × V)} {os : List (Key × O)} {fp : List Addr} : H a = some (.dK kvs) → ¬ F a → ROk K H F kvs os fp → a ∉ fp → RO K H F (.ref a) (.dic os) (a :: fp)
  | scr {a : Addr} {ns : List Int} : ((F a ∧ Rd H a (.lst (ns.map V.int))) ∨ SqL K (fun _ => none) a (ns.map V.int)) → RO K H F (.ref a) (.scr ns) []
inductive ROk (K : PySem.W.Frag) (H : Hp) (F : FA) : List (Key × V) → List (Key × O) → List Addr → Prop
  | nil : ROk K H F [] [] []
  | cons {k : Key} {v : V} {o : O} {vs : List (Key × V)} {os : List (Key × O)} {f1 f2 : List Addr} : RO K H F v o f1 → ROk K H F vs os f2 → (∀ a ∈ f1, a ∉ f2) → ROk K H F ((k, v) :: vs) ((k, o) :: os) (f1 ++ f2)
end
mutual
theorem RO.trk {K : PySem.W.Frag} {H : Hp} {F : FA} : ∀ {v : V} {o : O} {fp : List Addr}, RO K H F v o fp → ∀ a ∈ fp, (∃ u, H a = some u) ∧ ¬ F a
  | _, _, _, .sh _ => fun _ h => nomatch h
  | _, _, _, .lst e f _ => fun b h => by
    rcases List.mem_singleton.mp h with rfl
    exact ⟨⟨_, e⟩, f⟩
  | _, _, _, .dic e f r _ => fun b h => by
    rcases List.mem_cons.mp h with rfl | h
    · exact ⟨⟨_, e⟩, f⟩
    · exact ROk.trk r b h
  | _, _, _, .scr _ => fun _ h => nomatch h
theorem ROk.trk {K : PySem.W.Frag} {H : Hp} {F : FA} : ∀ {v : List (Key × V)} {o : List (Key × O)} {fp : List Addr}, ROk K H F v o fp → ∀ a ∈ fp, (∃ u, H a = some u) ∧ ¬ F a
  | _, _, _, .nil => fun _ h => nomatch h
  | _, _, _, .cons h t _ => fun b q => by
    rcases List.mem_append.mp q with q | q
    · exact RO.trk h b q
    · exact ROk.trk t b q
end
/-- the addresses at fp are as they were -/
def Sm (fp : List Addr) (H : Hp) (F : FA) (H' : Hp) (F' : FA) : Prop := ∀ a ∈ fp, H' a = H a ∧ (F' a → F a)
theorem Sm.app {f g : List Addr} {H H' : Hp} {F F' : FA} (h : Sm (f ++ g) H F H' F') : Sm f H F H' F' ∧ Sm g H F H' F' :=
  ⟨fun a q => h a (List.mem_append_left _ q), fun a q => h a (List.mem_append_right _ q)⟩
mutual
theorem RO.mono {K : PySem.W.Frag} {H H' : Hp} {F F' : FA} (s : Stb H F H' F') : ∀ {v : V} {o : O} {fp : List Addr}, RO K H F v o fp → Sm fp H F H' F' → RO K H' F' v o fp
  | _, _, _, .sh r, _ => .sh (r.mono s)
  | _, _, _, .lst e f r, k => .lst ((k _ (List.mem_singleton.mpr rfl)).1.trans e) (fun q => f ((k _ (List.mem_singleton.mpr rfl)).2 q)) (r.mono s)
  | _, _, _, .dic e f r n, k => .dic ((k _ List.mem_cons_self).1.trans e) (fun q => f ((k _ List.mem_cons_self).2 q)) (ROk.mono s r fun a q => k a (List.mem_cons_of_mem _ q)) n
  | _, _, _, .scr (.inl ⟨f, q⟩), _ => .scr (.inl ⟨s.fz _ f, s.rd _ _ f nfzL q⟩)
  | _, _, _, .scr (.inr q), _ => .scr (.inr q)
theorem ROk.mono {K : PySem.W.Frag} {H H' : Hp} {F F' : FA} (s : Stb H F H' F') : ∀ {v : List (Key × V)} {o : List (Key × O)} {fp : List Addr}, ROk K H F v o fp → Sm fp H F H' F' → ROk K H' F' v o fp
  | _, _, _, .nil, _ => .nil
  | _, _, _, .cons h t d, k => .cons (RO.mono s h k.app.1) (ROk.mono s t k.app.2) d
end
mutual
/-- no script within -/
def O.fzb : O → Bool
  | .sh _ => true
  | .lst _ => true
  | .dic kvs => O.fzbK kvs
  | .scr _ => false
def O.fzbK : List (Key × O) → Bool
  | [] => true
  | (_, o) :: r => o.fzb && O.fzbK r
end
mutual
theorem RO.freeze {K : PySem.W.Frag} {H : Hp} {F F' : FA} (hF : ∀ a, F a → F' a) : ∀ {v : V} {o : O} {fp : List Addr}, RO K H F v o fp → (∀ a ∈ fp, F' a) → o.fzb = true → Rep K H F' v (fz o)
  | _, _, _, .sh r, _, _ => r.mono ⟨fun _ _ _ h _ _ => h, fun _ _ _ _ h => h, hF⟩
  | _, _, _, .lst e f r, k, _ => .lst ⟨k _ (List.mem_singleton.mpr rfl), e⟩ (r.mono ⟨fun _ _ _ h _ _ => h, fun _ _ _ _ h => h, hF⟩)
  | _, _, _, .dic e f r n, k, b => .dic ⟨k _ List.mem_cons_self, .inl e⟩ (ROk.freeze hF r (fun a q => k a (List.mem_cons_of_mem _ q)) b)
  | _, _, _, .scr _, _, b => by cases b
theorem ROk.freeze {K : PySem.W.Frag} {H : Hp} {F F' : FA} (hF : ∀ a, F a → F' a) : ∀ {v : List (Key × V)} {o : List (Key × O)} {fp : List Addr}, ROk K H F v o fp → (∀ a ∈ fp, F' a) → O.fzbK o = true → RepK K H F' v (fzK o)
  | _, _, _, .nil, _, _ => .nil
  | _, _, _, .cons h t d, k, b => by
    have b' := Bool.and_eq_true_iff.mp b
    exact .cons (RO.freeze hF h (fun a q => k a (List.mem_append_left _ q)) b'.1) (ROk.freeze hF t (fun a q => k a (List.mem_append_right _ q)) b'.2)
end

/-! ### environments -/
abbrev En := List (Option O)
abbrev Sg := List (Option V)
inductive RS (K : PySem.W.Frag) (H : Hp) (F : FA) : Option V → Option O → List Addr → Prop
  | no {v : Option V} : RS K H F v none []
  | yes {v : V} {o : O} {f : List Addr} : RO K H F v o f → RS K H F (some v) (some o) f
inductive REnv (K : PySem.W.Frag) (H : Hp) (F : FA) : Sg → En → List Addr → Prop
  | nil : REnv K H F [] [] []
  | cons {v : Option V} {o : Option O} {σ : Sg} {env : En} {f1 f2 : List Addr} : RS K H F v o f1 → REnv K H F σ env f2 → (∀ a ∈ f1, a ∉ f2) → REnv K H F (v :: σ) (o :: env) (f1 ++ f2)
theorem RS.mono {K : PySem.W.Frag} {H H' : Hp} {F F' : FA} (s : Stb H F H' F') {v : Option V} {o : Option O} {fp : List Addr} (h : RS K H F v o fp) (k : Sm fp H F H' F') : RS K H' F' v o fp := by
  cases h with
  | no => exact .no
  | yes r => exact .yes (r.mono s k)
theorem RS.trk {K : PySem.W.Frag} {H : Hp} {F : FA} {v : Option V} {o : Option O} {fp : List Addr} (h : RS K H F v o fp) : ∀ a ∈ fp, (∃ u, H a = some u) ∧ ¬ F a := by
  cases h with
  | no => exact fun _ q => nomatch q
  | yes r => exact r.trk
theorem REnv.trk {K : PySem.W.Frag} {H : Hp} {F : FA} : ∀ {σ : Sg} {env : En} {fp : List Addr}, REnv K H F σ env fp → ∀ a ∈ fp, (∃ u, H a = some u) ∧ ¬ F a
  | _, _, _, .nil => fun _ h => nomatch h
  | _, _, _, .cons h t _ => fun b q => by
    rcases List.mem_append.mp q with q | q
    · exact h.trk b q
    · exact REnv.trk t b q
theorem REnv.mono {K : PySem.W.Frag} {H H' : Hp} {F F' : FA} (s : Stb H F H' F') : ∀ {σ : Sg} {env : En} {fp : List Addr}, REnv K H F σ env fp → Sm fp H F H' F' → REnv K H' F' σ env fp
  | _, _, _, .nil, _ => .nil
  | _, _, _, .cons h t d, k => .cons (h.mono s k.app.1) (REnv.mono s t k.app.2) d
theorem REnv.length {K : PySem.W.Frag} {H : Hp} {F : FA} : ∀ {σ : Sg} {env : En} {fp : List Addr}, REnv K H F σ env fp → σ.length = env.length
  | _, _, _, .nil => rfl
  | _, _, _, .cons _ t _ => by rw [List.length_cons, List.length_cons, REnv.length t]
/-- slot i apart; what comes in its place -/
theorem REnv.split {K : PySem.W.Frag} {H : Hp} {F : FA} : ∀ {σ : Sg} {env : En} {fp : List Addr} (i : Nat), REnv K H F σ env fp → i < env.length →
    ∃ v o f1 fr, σ[i]? = some v ∧ env[i]? = some o ∧ RS K H F v o f1 ∧ (∀ a, a ∈ fp ↔ a ∈ f1 ∨ a ∈ fr) ∧ (∀ a ∈ f1, a ∉ fr) ∧
      ∀ (H' : Hp) (F' : FA) (v' : Option V) (o' : Option O) (f1' : List Addr), Stb H F H' F' → Sm fr H F H' F' → RS K H' F' v' o' f1' → (∀ a ∈ f1', a ∉ fr) →
        ∃ fp', REnv K H' F' (σ.set i v') (env.set i o') fp' ∧ ∀ a, a ∈ fp' ↔ a ∈ f1' ∨ a ∈ fr
  | _, _, _, i, .nil, h => absurd h (by simp)
  | _, _, _, 0, .cons (f1 := f1) (f2 := f2) h t d, _ => ⟨_, _, f1, f2, rfl, rfl, h, fun a => List.mem_append, d, fun H' F' v' o' f1' s k r d' =>
      ⟨f1' ++ f2, .cons r (t.mono s k) d', fun a => List.mem_append⟩⟩
  | _, _, _, i + 1, .cons (v := w) (o := ow) (f1 := g1) (f2 := g2) h t d, hi => by
    obtain ⟨v, o, f1, fr, e1, e2, r, hm, hd, hk⟩ := REnv.split i t (by simpa using hi)
    refine ⟨v, o, f1, g1 ++ fr, by simpa using e1, by simpa using e2, r, fun a => ?_, fun a q q' => ?_, fun H' F' v' o' f1' s k r' d' => ?_⟩
    · rw [List.mem_append, List.mem_append, hm]
      constructor
      · rintro (q | q | q)
        · exact .inr (.inl q)
        · exact .inl q
        · exact .inr (.inr q)
      · rintro (q | q | q)
        · exact .inr (.inl q)
        · exact .inl q
        · exact .inr (.inr q)
    · rcases List.mem_append.mp q' with q' | q'
      · exact d a q' ((hm a).mpr (.inl q))
      · exact hd a q q'
    · obtain ⟨fp', re, hm'⟩ := hk H' F' v' o' f1' s k.app.2 r' fun a q q' => d' a q (List.mem_append_right _ q')
      refine ⟨g1 ++ fp', .cons (h.mono s k.app.1) re fun a q q' => ?_, fun a => ?_⟩
      · rcases (hm' a).mp q' with z | z
        · exact d' a z (List.mem_append_left _ q)
        · exact d a q ((hm a).mpr (.inr z))
      · rw [List.mem_append, List.mem_append, hm']
        constructor
        · rintro (q | q | q)
          · exact .inr (.inl q)
          · exact .inl q
          · exact .inr (.inr q)
        · rintro (q | q | q)
          · exact .inr (.inl q)
          · exact .inl q
          · exact .inr (.inr q)

/-! ### transitions -/
structure Tr (fp : List Addr) (H : Hp) (F : FA) (H' : Hp) (F' : FA) (fp' : List Addr) : Prop where
  keep : ∀ a u, H a = some u → a ∉ fp → H' a = some u ∧ (F' a → F a)
  froz : ∀ a, F a → F' a
  new : ∀ a ∈ fp', a ∈ fp ∨ H a = none
theorem Tr.refl {fp : List Addr} {H : Hp} {F : FA} : Tr fp H F H F fp := ⟨fun _ _ h _ => ⟨h, fun f => f⟩, fun _ h => h, fun _ h => .inl h⟩
theorem Tr.trans {fp fp1 fp2 : List Addr} {H H1 H2 : Hp} {F F1 F2 : FA} (a : Tr fp H F H1 F1 fp1) (b : Tr fp1 H1 F1 H2 F2 fp2) : Tr fp H F H2 F2 fp2 where
  keep := fun x u h n => by
    obtain ⟨h1, f1⟩ := a.keep x u h n
    obtain ⟨h2, f2⟩ := b.keep x u h1 fun q => (a.new x q).elim n fun z => by rw [h] at z; cases z
    exact ⟨h2, fun q => f1 (f2 q)⟩
  froz := fun x h => b.froz x (a.froz x h)
  new := fun x h => by
    rcases b.new x h with q | q
    · exact a.new x q
    · cases e : H x with
      | none => exact .inr rfl
      | some u =>
        by_cases n : x ∈ fp
        · exact .inl n
        · rw [(a.keep x u e n).1] at q; cases q
theorem Tr.stb {fp fp' : List Addr} {H H' : Hp} {F F' : FA} (t : Tr fp H F H' F' fp') (h : ∀ a ∈ fp, ¬ F a) : Stb H F H' F' where
  un := fun a u f e _ _ => (t.keep a u e fun q => h a q f).1
  rd := fun a u f _ e => by
    rcases e with e | ⟨o, e⟩
    · exact .inl (t.keep a _ e fun q => h a q f).1
    · exact .inr ⟨o, (t.keep a _ e fun q => h a q f).1⟩
  fz := t.froz
theorem REnv.nf {K : PySem.W.Frag} {H : Hp} {F : FA} {σ : Sg} {env : En} {fp : List Addr} (r : REnv K H F σ env fp) : ∀ a ∈ fp, ¬ F a := fun a q => (r.trk a q).2
theorem Rep.tr {K : PySem.W.Frag} {H H' : Hp} {F F' : FA} {fp fp' : List Addr} {σ : Sg} {env : En} {v : V} {d : D} (h : Rep K H F v d) (r : REnv K H F σ env fp) (t : Tr fp H F H' F' fp') : Rep K H' F' v d := h.mono (t.stb r.nf)
/-- an owned thing beside the environment stays -/
theorem RO.tr {K : PySem.W.Frag} {H H' : Hp} {F F' : FA} {fp fp' fr : List Addr} {σ : Sg} {env : En} {v : V} {o : O} (h : RO K H F v o fr) (r : REnv K H F σ env fp) (d : ∀ a ∈ fr, a ∉ fp) (t : Tr fp H F H' F' fp') : RO K H' F' v o fr :=
  h.mono (t.stb r.nf) fun a q => by
    obtain ⟨⟨u, e⟩, f⟩ := h.trk a q
    obtain ⟨e', f'⟩ := t.keep a u e (d a q)
    exact ⟨e'.trans e.symm, f'⟩
/-- a new object, frozen -/
theorem Tr.lay {fp : List Addr} {H : Hp} {F : FA} {p : Addr} {ob : HO} (hp : H p = none) : Tr fp H F (upd H p ob) (fun a => F a ∨ a = p) fp where
  keep := fun a u e _ => ⟨by rw [upd_ne (ne_of_none e hp)]; exact e, fun q => q.elim id fun z => absurd z (ne_of_none e hp)⟩
  froz := fun a h => .inl h
  new := fun a h => .inl h
theorem REnv.lay {K : PySem.W.Frag} {H : Hp} {F : FA} {σ : Sg} {env : En} {fp : List Addr} {p : Addr} {ob : HO} (r : REnv K H F σ env fp) (hp : H p = none) : REnv K (upd H p ob) (fun a => F a ∨ a = p) σ env fp :=
  r.mono ((Tr.lay (fp := fp) hp).stb r.nf) fun a q => by
    obtain ⟨⟨u, e⟩, f⟩ := r.trk a q
    refine ⟨by rw [upd_ne (ne_of_none e hp)], fun z => z.elim id fun z => absurd z (ne_of_none e hp)⟩
/-- a frozen address is tracked -/
def Fo (H : Hp) (F : FA) : Prop := ∀ a, F a → ∃ u, H a = some u
structure Sta (K : PySem.W.Frag) (H : Hp) (F : FA) (σ : Sg) (env : En) (fp : List Addr) : Prop where
  re : REnv K H F σ env fp
  fo : Fo H F
theorem Fo.lay {H : Hp} {F : FA} {p : Addr} {ob : HO} (h : Fo H F) : Fo (upd H p ob) (fun a => F a ∨ a = p) := fun a q => by
  by_cases e : a = p
  · subst e; exact ⟨_, upd_same⟩
  · obtain ⟨u, z⟩ := h a (q.resolve_right e)
    exact ⟨u, by rw [upd_ne e]; exact z⟩
theorem Sta.lay {K : PySem.W.Frag} {H : Hp} {F : FA} {σ : Sg} {env : En} {fp : List Addr} {p : Addr} {ob : HO} (r : Sta K H F σ env fp) (hp : H p = none) : Sta K (upd H p ob) (fun a => F a ∨ a = p) σ env fp :=
  ⟨r.re.lay hp, r.fo.lay⟩
theorem Stb.refl {H : Hp} {F : FA} : Stb H F H F := ⟨fun _ _ _ h _ _ => h, fun _ _ _ _ h => h, fun _ h => h⟩
/-- a step of one value: all that is tracked stays, new things may be frozen -/
structure Nw (H : Hp) (F : FA) (H' : Hp) (F' : FA) : Prop where
  keep : ∀ a u, H a = some u → H' a = some u ∧ (F' a → F a)
  froz : ∀ a, F a → F' a
  fo : Fo H F → Fo H' F'
theorem Nw.refl {H : Hp} {F : FA} : Nw H F H F := ⟨fun _ _ h => ⟨h, fun f => f⟩, fun _ h => h, fun h => h⟩
theorem Nw.trans {H H1 H2 : Hp} {F F1 F2 : FA} (a : Nw H F H1 F1) (b : Nw H1 F1 H2 F2) : Nw H F H2 F2 where
  keep := fun x u h => ⟨(b.keep x u (a.keep x u h).1).1, fun q => (a.keep x u h).2 ((b.keep x u (a.keep x u h).1).2 q)⟩
  froz := fun x h => b.froz x (a.froz x h)
  fo := fun h => b.fo (a.fo h)
theorem Nw.lay {H : Hp} {F : FA} {p : Addr} {ob : HO} (hp : H p = none) : Nw H F (upd H p ob) (fun a => F a ∨ a = p) :=
  ⟨fun a u e => (Tr.lay (fp := []) hp).keep a u e (by simp), fun a h => .inl h, fun h => h.lay⟩
theorem Nw.tr {fp : List Addr} {H H' : Hp} {F F' : FA} (n : Nw H F H' F') : Tr fp H F H' F' fp := ⟨fun a u e _ => n.keep a u e, n.froz, fun _ h => .inl h⟩
theorem Nw.sta {K : PySem.W.Frag} {H H' : Hp} {F F' : FA} {σ : Sg} {env : En} {fp : List Addr} (n : Nw H F H' F') (r : Sta K H F σ env fp) : Sta K H' F' σ env fp :=
  ⟨r.re.mono ((n.tr (fp := fp)).stb r.re.nf) fun a q => by
    obtain ⟨⟨u, e⟩, f⟩ := r.re.trk a q
    obtain ⟨e', f'⟩ := n.keep a u e
    exact ⟨e'.trans e.symm, f'⟩, n.fo r.fo⟩
/-- the frozen part is exactly the same -/
structure Kp (H : Hp) (F : FA) (H' : Hp) (F' : FA) : Prop where
  un : ∀ a u, F a → H a = some u → H' a = some u
  fz : ∀ a, F a → F' a
theorem Kp.refl {H : Hp} {F : FA} : Kp H F H F := ⟨fun _ _ _ h => h, fun _ h => h⟩
theorem Kp.trans {H H1 H2 : Hp} {F F1 F2 : FA} (a : Kp H F H1 F1) (b : Kp H1 F1 H2 F2) : Kp H F H2 F2 := ⟨fun x u f e => b.un x u (a.fz x f) (a.un x u f e), fun x f => b.fz x (a.fz x f)⟩
theorem Kp.stb {H H' : Hp} {F F' : FA} (k : Kp H F H' F') : Stb H F H' F' :=
  ⟨fun a u f e _ _ => k.un a u f e, fun a u f _ e => e.imp (k.un a _ f) fun ⟨o, e⟩ => ⟨o, k.un a _ f e⟩, k.fz⟩
theorem Tr.kp {fp fp' : List Addr} {H H' : Hp} {F F' : FA} (t : Tr fp H F H' F' fp') (h : ∀ a ∈ fp, ¬ F a) : Kp H F H' F' := ⟨fun a u f e => (t.keep a u e fun q => h a q f).1, t.froz⟩
theorem Nw.kp {H H' : Hp} {F F' : FA} (n : Nw H F H' F') : Kp H F H' F' := ⟨fun a u _ e => (n.keep a u e).1, n.froz⟩
theorem Nw.stb {H H' : Hp} {F F' : FA} (n : Nw H F H' F') : Stb H F H' F' where
  un := fun a u f e _ _ => (n.keep a u e).1
  rd := fun a u f _ e => by
    rcases e with e | ⟨o, e⟩
    · exact .inl (n.keep a _ e).1
    · exact .inr ⟨o, (n.keep a _ e).1⟩
  fz := n.froz
theorem Rep.nw {K : PySem.W.Frag} {H H' : Hp} {F F' : FA} {v : V} {d : D} (h : Rep K H F v d) (n : Nw H F H' F') : Rep K H' F' v d := h.mono n.stb
theorem RepA.nw {K : PySem.W.Frag} {H H' : Hp} {F F' : FA} {v : List V} {d : List D} (h : RepA K H F v d) (n : Nw H F H' F') : RepA K H' F' v d := h.mono n.stb
end VH
set_option Elab.async false
set_option linter.all false
set_option maxRecDepth 100000
set_option maxHeartbeats 4000000
namespace VH
open PySem PySem.Spec PyProof.Rows L2

structure Xc where
  cls : Str
  fs : List (Str × D)
inductive Rs (α : Type) where
  | ok (a : α) (env : En)
  | exc (x : Xc) (env : En)
  | bad
def bnd {α β : Type} (f : En → Rs α) (g : α → En → Rs β) : En → Rs β := fun env => match f env with
  | .ok a e => g a e
  | .exc x e => .exc x e
  | .bad => .bad
def ret {α : Type} (a : α) : En → Rs α := fun env => .ok a env
def lift {α : Type} (o : Option α) : En → Rs α := fun env => match o with
  | some a => .ok a env
  | none => .bad
structure Gx where
  K : PySem.W.Frag
  mg : Str → Option Value
abbrev gx (X : Cx) : Gx := ⟨X.K, X.mg⟩
def RX (G : Gx) (H : Hp) (F : FA) (c : Value) (o : Option Addr) (x : Xc) : Prop :=
  ∃ C, G.mg x.cls = some (.ref C) ∧ c = .ref C ∧ ((o = none ∧ x.fs = []) ∨ ∃ d fs, o = some d ∧ H d = some (.xd fs) ∧ Paired (fun p q => p.1 = q.1 ∧ Rep G.K H F p.2 q.2) fs x.fs)
def Out {α : Type} (G : Gx) (W : WX) (σ : Sg) (fp : List Addr) (H : Hp) (F : FA) (r : Rs α) (P : α → En → Hp → FA → List Addr → Prop) : Prop := match r with
  | .ok a env => ∀ H' F' fp', Tr fp H F H' F' fp' → Sta G.K H' F' σ env fp' → P a env H' F' fp'
  | .exc x env => ∀ H' F' fp' c o, Tr fp H F H' F' fp' → Sta G.K H' F' σ env fp' → RX G H' F' c o x → W c o σ H'
  | .bad => False
section
variable {G : Gx} {W : WX} {σ : Sg} {fp : List Addr} {H : Hp} {F : FA}
theorem Out.mono {α : Type} {r : Rs α} {P P' : α → En → Hp → FA → List Addr → Prop} (h : Out G W σ fp H F r P) (k : ∀ a env H' F' fp', Tr fp H F H' F' fp' → Sta G.K H' F' σ env fp' → P a env H' F' fp' → P' a env H' F' fp') : Out G W σ fp H F r P' := by
  cases r with
  | ok a env => exact fun H' F' fp' t s => k a env H' F' fp' t s (h H' F' fp' t s)
  | exc x env => exact h
  | bad => exact h
theorem Out.bind {α β : Type} {f : En → Rs α} {g : α → En → Rs β} {env : En} {P : β → En → Hp → FA → List Addr → Prop} (h : Out G W σ fp H F (bnd f g env) P) :
    Out G W σ fp H F (f env) fun a env1 H1 F1 fp1 => Out G W σ fp1 H1 F1 (g a env1) P := by
  unfold bnd at h
  cases e : f env with
  | ok a env1 =>
    rw [e] at h
    intro H1 F1 fp1 t1 s1
    replace h : Out G W σ fp H F (g a env1) P := h
    cases e2 : g a env1 with
    | ok b env2 =>
      rw [e2] at h
      exact fun H2 F2 fp2 t2 s2 => h H2 F2 fp2 (t1.trans t2) s2
    | exc x env2 =>
      rw [e2] at h
      exact fun H2 F2 fp2 c o t2 s2 rx => h H2 F2 fp2 c o (t1.trans t2) s2 rx
    | bad => rw [e2] at h; exact h
  | exc x env1 => rw [e] at h; exact h
  | bad => rw [e] at h; exact h
/-- what comes by itself -/
theorem Out.lift {α : Type} {o : Option α} {env : En} {P : α → En → Hp → FA → List Addr → Prop} (h : Out G W σ fp H F (lift o env) P) : ∃ a, o = some a ∧ ∀ H' F' fp', Tr fp H F H' F' fp' → Sta G.K H' F' σ env fp' → P a env H' F' fp' := by
  cases o with
  | none => exact h.elim
  | some a => exact ⟨a, rfl, h⟩
end

/-! ### readings -/
def tD (G : Gx) (W : WX) (f : En → Rs D) : TE := fun σ H Q => ∃ env F fp, Sta G.K H F σ env fp ∧ Out G W σ fp H F (f env) fun d _ H' F' _ => ∀ v, Rep G.K H' F' v d → Q v H'
def tT (G : Gx) (W : WX) (f : En → Rs Bool) : TT := fun σ H Q => ∃ env F fp, Sta G.K H F σ env fp ∧ Out G W σ fp H F (f env) fun b _ H' _ _ => Q b H'
def tAs (G : Gx) (W : WX) (f : En → Rs (List D)) : TA := fun σ H Q => ∃ env F fp, Sta G.K H F σ env fp ∧ Out G W σ fp H F (f env) fun ds _ H' F' _ => ∀ vs, RepA G.K H' F' vs ds → Q vs H'
theorem PE.imp {X : Cx} {e : Expr} {t t' : TE} (h : PE X e t) (k : ∀ σ H Q, t' σ H Q → t σ H Q) : PE X e t' := ⟨fun pins s σ H Q I w => h.run pins s σ H Q I (k σ H Q w)⟩
theorem PT.imp {X : Cx} {e : Expr} {t t' : TT} (h : PT X e t) (k : ∀ σ H Q, t' σ H Q → t σ H Q) : PT X e t' := ⟨fun pins s σ H Q I w => h.run pins s σ H Q I (k σ H Q w)⟩
theorem PW.imp {X : Cx} {e : Expr} {t t' : TT} (h : PW X e t) (k : ∀ σ H Q, t' σ H Q → t σ H Q) : PW X e t' := ⟨fun wh pins s σ H Q I w => h.run wh pins s σ H Q I (k σ H Q w)⟩
theorem PA.imp {X : Cx} {e : List Expr} {t t' : TA} (h : PA X e t) (k : ∀ σ H Q, t' σ H Q → t σ H Q) : PA X e t' := ⟨fun pos pins s σ H Q I w => h.run pos pins s σ H Q I (k σ H Q w)⟩

/-! ### names and constants -/
def eVar (i : Nat) : En → Rs D := fun env => match env[i]? with
  | some (some o) => if o.fzb = true then .ok (fz o) (env.set i (some (.sh (fz o)))) else .bad
  | _ => .bad
def eC (d : D) : En → Rs D := fun env₀ => (ret d) env₀
theorem set_get {α : Type} {l : List α} {i : Nat} {a : α} (h : l[i]? = some a) : l.set i a = l := by
  apply List.ext_getElem?
  intro j
  by_cases e : i = j
  · subst e
    have hl : i < l.length := (List.getElem?_eq_some_iff.mp h).1
    rw [List.getElem?_set_self hl, h]
  · rw [List.getElem?_set_ne e]
section
variable {X : Cx} {W : WX}
theorem pd_var (i : Nat) {x : Str} {pos : Pos} (hN : X.N[i]? = some x := by rfl) (hv : Vis X.env.scope x := by first | exact Or.inl rfl | exact Or.inr (Or.inl rfl) | exact Or.inr (Or.inr rfl)) (hd : (x == ("__debug__" : Str)) = false := by decide)
    (hcd : (x == ("__classdict__" : Str)) = false := by decide) : PE X (.Name x pos) (tD (gx X) W (eVar i)) := by
  refine PE.imp (pe_var hN hv hd hcd) fun σ H Q h => ?_
  obtain ⟨env, F, fp, st, h⟩ := h
  unfold eVar at h
  split at h
  · rename_i o he
    split at h
    · rename_i hb
      have hi : i < env.length := (List.getElem?_eq_some_iff.mp he).1
      obtain ⟨v, o', f1, fr, e1, e2, rs, hm, hd, hk⟩ := st.re.split i hi
      rw [he] at e2
      cases e2
      cases rs with
      | @yes v _ f1 r =>
        refine ⟨v, e1, ?_⟩
        have hF : ∀ a, F a → (F a ∨ a ∈ f1) := fun a q => .inl q
        have rep : Rep X.K H (fun a => F a ∨ a ∈ f1) v (fz o) := r.freeze hF (fun a q => .inr q) hb
        have sb : Stb H F H (fun a => F a ∨ a ∈ f1) := ⟨fun _ _ _ h _ _ => h, fun _ _ _ _ h => h, hF⟩
        obtain ⟨fp', re, hm'⟩ := hk H (fun a => F a ∨ a ∈ f1) (some v) (some (.sh (fz o))) [] sb (fun a q => ⟨rfl, fun z => z.elim id fun z => absurd q (hd a z)⟩) (.yes (.sh rep)) (fun _ q => nomatch q)
        rw [set_get e1] at re
        refine h H (fun a => F a ∨ a ∈ f1) fp' ⟨fun a u e n => ⟨e, fun z => z.elim id fun z => absurd ((hm a).mpr (.inl z)) n⟩, hF, fun a q => .inl ((hm a).mpr (.inr (((hm' a).mp q).resolve_left (by simp))))⟩ ⟨re, fun a q => ?_⟩ v rep
        rcases q with q | q
        · exact st.fo a q
        · exact (r.trk a q).1
    · exact h.elim
  · exact h.elim
theorem pd_int {i : Int} {j pos} : PE X (.Constant (.int i) j pos) (tD (gx X) W (eC (.int i))) := PE.imp pe_int fun σ H Q ⟨env, F, fp, st, h⟩ => h H F fp .refl st _ (.int i)
theorem pd_str {i : Str} {j pos} : PE X (.Constant (.str i) j pos) (tD (gx X) W (eC (.str i))) := PE.imp pe_str fun σ H Q ⟨env, F, fp, st, h⟩ => h H F fp .refl st _ (.str i)
theorem pd_bl {i : Bool} {j pos} : PE X (.Constant (.bool i) j pos) (tD (gx X) W (eC (.bool i))) := PE.imp pe_bl fun σ H Q ⟨env, F, fp, st, h⟩ => h H F fp .refl st _ (.bl i)
theorem pd_non {j pos} : PE X (.Constant .none j pos) (tD (gx X) W (eC .none)) := PE.imp pe_non fun σ H Q ⟨env, F, fp, st, h⟩ => h H F fp .refl st _ .non
theorem pd_gint {x : Str} {i : Int} {pos : Pos} (hg : Gl X x) (hm : ∃ t, X.mg x = some (.int i t)) (hd : (x == ("__debug__" : Str)) = false := by decide) : PE X (.Name x pos) (tD (gx X) W (eC (.int i))) := by
  obtain ⟨t, hm⟩ := hm
  exact PE.imp (pe_glob (v := .int i) hg hm ⟨t, rfl⟩ hd) fun σ H Q ⟨env, F, fp, st, h⟩ => h H F fp .refl st _ (.int i)
theorem pd_gstr {x : Str} {i : Str} {pos : Pos} (hg : Gl X x) (hm : ∃ t, X.mg x = some (.str i t)) (hd : (x == ("__debug__" : Str)) = false := by decide) : PE X (.Name x pos) (tD (gx X) W (eC (.str i))) := by
  obtain ⟨t, hm⟩ := hm
  exact PE.imp (pe_glob (v := .str i) hg hm ⟨t, rfl⟩ hd) fun σ H Q ⟨env, F, fp, st, h⟩ => h H F fp .refl st _ (.str i)
end

/-! ### operators -/
/-- what an operation on values gives -/
def Gv (K : PySem.W.Frag) (H : Hp) (F : FA) (d : D) (Q : VK) : Prop := ∀ v H' F', Nw H F H' F' → Rep K H' F' v d → Q v H'
def OpD (X : Cx) (f : Value → Value → Sem Value) (op : D → D → Option D) : Prop :=
  ∀ (pins : List (Addr × Obj)) (s : Shared) (σ : Sg) (H : Hp) (F : FA) (x y : V) (v u : Value) (d1 d2 d : D) (Q : VK), Inv X pins σ H s → RelV x v → RelV y u → Rep X.K H F x d1 → Rep X.K H F y d2 → op d1 d2 = some d →
    Gv X.K H F d Q → wpAny (model X.prog X.w) X.A (f v u) (EP X pins σ Q) X.xe s
def eBin (op : D → D → Option D) (fa fb : En → Rs D) : En → Rs D := fun env₀ => (bnd fa fun x => bnd fb fun y => lift (op x y)) env₀
section
variable {X : Cx} {W : WX}
/-- two values in a row -/
theorem tD_two {op : D → D → Option D} {fa fb : En → Rs D} {σ : Sg} {H : Hp} {Q : VK} (h : tD (gx X) W (eBin op fa fb) σ H Q) :
    tD (gx X) W fa σ H fun x H1 => tD (gx X) W fb σ H1 fun y H2 => ∃ F2 d1 d2 d, Rep X.K H2 F2 x d1 ∧ Rep X.K H2 F2 y d2 ∧ op d1 d2 = some d ∧ Gv X.K H2 F2 d Q := by
  obtain ⟨env, F, fp, st, h⟩ := h
  refine ⟨env, F, fp, st, Out.mono h.bind fun d1 env1 H1 F1 fp1 t1 s1 h1 v1 r1 => ?_⟩
  refine ⟨env1, F1, fp1, s1, Out.mono h1.bind fun d2 env2 H2 F2 fp2 t2 s2 h2 v2 r2 => ?_⟩
  obtain ⟨d, e, h3⟩ := h2.lift
  exact ⟨F2, d1, d2, d, r1.tr s1.re t2, r2, e, fun v H' F' n r => h3 H' F' fp2 n.tr (n.sta s2) v r⟩
theorem pd_bin {o : Operator} {op : D → D → Option D} {a b : Expr} {fa fb : En → Rs D} {pos : Pos} (ho : OpD X (binaryOp o) op) (ha : PE X a (tD (gx X) W fa)) (hb : PE X b (tD (gx X) W fb)) : PE X (.BinOp a o b pos) (tD (gx X) W (eBin op fa fb)) := by
  refine ⟨fun pins s σ H Q I h => ?_⟩
  refine wpAny_BinOp (bin ha hb I (tD_two h) fun v u s2 x y H2 I2 rx ry ⟨F2, d1, d2, d, r1, r2, e, g⟩ => ?_)
  exact ho pins s2 σ H2 F2 x y v u d1 d2 d Q I2 rx ry r1 r2 e g
theorem pd_cmp {o : CmpOp} {op : D → D → Option D} {a b : Expr} {fa fb : En → Rs D} {pos : Pos} (ho : OpD X (compareOp o) op) (ha : PE X a (tD (gx X) W fa)) (hb : PE X b (tD (gx X) W fb)) (hm : behindInMarks o b = false) :
    PE X (.Compare a [o] [b] pos) (tD (gx X) W (eBin op fa fb)) := by
  refine ⟨fun pins s σ H Q I h => ?_⟩
  refine wpAny_Compare1 (bin ha hb I (tD_two h) fun v u s2 x y H2 I2 rx ry ⟨F2, d1, d2, d, r1, r2, e, g⟩ => ?_) hm
  exact ho pins s2 σ H2 F2 x y v u d1 d2 d Q I2 rx ry r1 r2 e g
/-- a value that must be True or False -/
def blD : D → Option Bool
  | .bool b => some b
  | _ => none
def eB (f : En → Rs D) : En → Rs Bool := fun env₀ => (bnd f fun d => lift (blD d)) env₀
theorem tD_B {f : En → Rs D} {σ : Sg} {H : Hp} {Q : Bool → Hp → Prop} (h : tT (gx X) W (eB f) σ H Q) : tD (gx X) W f σ H fun x H1 => ∃ c, x = .bl c ∧ Q c H1 := by
  obtain ⟨env, F, fp, st, h⟩ := h
  refine ⟨env, F, fp, st, Out.mono h.bind fun d env1 H1 F1 fp1 t1 s1 h1 v r => ?_⟩
  obtain ⟨b, e, h2⟩ := h1.lift
  cases r with
  | bl c =>
    cases e
    exact ⟨_, rfl, h2 H1 F1 fp1 .refl s1⟩
  | _ => cases e
theorem ptd_val {e : Expr} {f : En → Rs D} (h : PE X e (tD (gx X) W f)) (he : ∀ whole, isTrue e X.env whole = (do let v ← whole; standAt e.pos; holding [v] (truthy v)) := by intro _; rfl) : PT X e (tT (gx X) W (eB f)) :=
  PT.imp (pt_val h he) fun σ H Q h => tD_B h
theorem ptd_cmp {o : CmpOp} {op : D → D → Option D} {a b : Expr} {fa fb : En → Rs D} {pos : Pos} (ho : OpD X (compareOp o) op) (ha : PE X a (tD (gx X) W fa)) (hb : PE X b (tD (gx X) W fb)) (hm : behindInMarks o b = false) :
    PT X (.Compare a [o] [b] pos) (tT (gx X) W (eB (eBin op fa fb))) := by
  refine ⟨fun pins s σ H Q I hw => ?_⟩
  refine wpAny_isTrue_Compare1 (bin ha hb I (tD_two (tD_B hw)) fun v u s2 x y H2 I2 rx ry ⟨F2, d1, d2, d, r1, r2, e, g⟩ => ?_) hm
  refine thn (ho pins s2 σ H2 F2 x y v u d1 d2 d _ I2 rx ry r1 r2 e g) fun c s3 ⟨z, H3, I3, r3, k, ez, q⟩ => ?_
  subst ez
  cases r3
  exact wpAny_truthy_bool ⟨H3, I3, q⟩
/-! ### and, or, not, if -/
def eAnd (f g : En → Rs Bool) : En → Rs Bool := fun env₀ => (bnd f fun b env => if b = true then g env else .ok false env) env₀
def eOr (f g : En → Rs Bool) : En → Rs Bool := fun env₀ => (bnd f fun b env => if b = true then .ok true env else g env) env₀
def eNot (f : En → Rs Bool) : En → Rs Bool := fun env₀ => (bnd f fun b => ret (!b)) env₀
def eOfB (f : En → Rs Bool) : En → Rs D := fun env₀ => (bnd f fun b => ret (.bool b)) env₀
theorem tT_and {f g : En → Rs Bool} {σ : Sg} {H : Hp} {Q : Bool → Hp → Prop} (h : tT (gx X) W (eAnd f g) σ H Q) : tAnd (tT (gx X) W f) (tT (gx X) W g) σ H Q := by
  obtain ⟨env, F, fp, st, h⟩ := h
  refine ⟨env, F, fp, st, Out.mono h.bind fun b env1 H1 F1 fp1 t1 s1 h1 => ?_⟩
  cases b with
  | true => exact iteT ⟨env1, F1, fp1, s1, h1⟩
  | false => exact iteF (h1 H1 F1 fp1 .refl s1)
theorem tT_or {f g : En → Rs Bool} {σ : Sg} {H : Hp} {Q : Bool → Hp → Prop} (h : tT (gx X) W (eOr f g) σ H Q) : tOr (tT (gx X) W f) (tT (gx X) W g) σ H Q := by
  obtain ⟨env, F, fp, st, h⟩ := h
  refine ⟨env, F, fp, st, Out.mono h.bind fun b env1 H1 F1 fp1 t1 s1 h1 => ?_⟩
  cases b with
  | false => exact iteF ⟨env1, F1, fp1, s1, h1⟩
  | true => exact iteT (h1 H1 F1 fp1 .refl s1)
section
variable {a b : Expr} {rest : List Expr} {pos : Pos} {f g : En → Rs Bool}
theorem pwd_and1 (h : PT X a (tT (gx X) W f)) : PW X (.BoolOp .And [a] pos) (tT (gx X) W f) := pw_and1 h
theorem pwd_or1 (h : PT X a (tT (gx X) W f)) : PW X (.BoolOp .Or [a] pos) (tT (gx X) W f) := pw_or1 h
theorem pwd_and (h : PT X a (tT (gx X) W f)) (h2 : PW X (.BoolOp .And (b :: rest) pos) (tT (gx X) W g)) : PW X (.BoolOp .And (a :: b :: rest) pos) (tT (gx X) W (eAnd f g)) := PW.imp (pw_and h h2) fun _ _ _ => tT_and
theorem pwd_or (h : PT X a (tT (gx X) W f)) (h2 : PW X (.BoolOp .Or (b :: rest) pos) (tT (gx X) W g)) : PW X (.BoolOp .Or (a :: b :: rest) pos) (tT (gx X) W (eOr f g)) := PW.imp (pw_or h h2) fun _ _ _ => tT_or
theorem ptd_not (h : PT X a (tT (gx X) W f)) : PT X (.UnaryOp .Not a pos) (tT (gx X) W (eNot f)) := PT.imp (pt_not h) fun σ H Q ⟨env, F, fp, st, h⟩ =>
  ⟨env, F, fp, st, Out.mono h.bind fun b env1 H1 F1 fp1 t1 s1 h1 => h1 H1 F1 fp1 .refl s1⟩
/-- values that are True or False -/
def eAndV (f g : En → Rs D) : En → Rs D := fun env₀ => (bnd (eB f) fun b env => if b = true then g env else .ok (.bool false) env) env₀
def eOrV (f g : En → Rs D) : En → Rs D := fun env₀ => (bnd (eB f) fun b env => if b = true then .ok (.bool true) env else g env) env₀
def eNotV (f : En → Rs D) : En → Rs D := fun env₀ => (bnd (eB f) fun b => ret (.bool (!b))) env₀
variable {p q : En → Rs D}
theorem tD_of_B {k : Bool → En → Rs D} {σ : Sg} {H : Hp} {Q : VK} (h : tD (gx X) W (bnd (eB p) k) σ H Q) : tD (gx X) W p σ H fun x H1 => ∃ c, x = .bl c ∧ tD (gx X) W (k c) σ H1 Q := by
  obtain ⟨env, F, fp, st, h⟩ := h
  refine ⟨env, F, fp, st, Out.mono h.bind.bind fun d env1 H1 F1 fp1 t1 s1 h1 v r => ?_⟩
  obtain ⟨b, e, h2⟩ := h1.lift
  cases r with
  | bl c =>
    cases e
    exact ⟨_, rfl, env1, F1, fp1, s1, h2 H1 F1 fp1 .refl s1⟩
  | _ => cases e
theorem tD_ret {d : D} {σ : Sg} {H : Hp} {Q : VK} (h : tD (gx X) W (ret d) σ H Q) : ∃ F, ∀ v, Rep X.K H F v d → Q v H := by
  obtain ⟨env, F, fp, st, h⟩ := h
  exact ⟨F, h H F fp .refl st⟩
theorem pd_one {op} (h : PE X a (tD (gx X) W p)) : PE X (.BoolOp op [a] pos) (tD (gx X) W p) := pe_one h
theorem pd_and (h : PE X a (tD (gx X) W p)) (h2 : PE X (.BoolOp .And (b :: rest) pos) (tD (gx X) W q)) : PE X (.BoolOp .And (a :: b :: rest) pos) (tD (gx X) W (eAndV p q)) := PE.imp (pe_and h h2) fun σ H Q h => by
  obtain ⟨env, F, fp, st, h⟩ := tD_of_B h
  refine ⟨env, F, fp, st, Out.mono h fun d env1 H1 F1 fp1 t1 s1 h1 v r => ?_⟩
  obtain ⟨c, e, h2⟩ := h1 v r
  refine ⟨c, e, ?_⟩
  cases c with
  | true => exact iteT h2
  | false =>
    obtain ⟨F2, h3⟩ := tD_ret (d := .bool false) h2
    exact iteF (h3 _ (.bl false))
theorem pd_or (h : PE X a (tD (gx X) W p)) (h2 : PE X (.BoolOp .Or (b :: rest) pos) (tD (gx X) W q)) : PE X (.BoolOp .Or (a :: b :: rest) pos) (tD (gx X) W (eOrV p q)) := PE.imp (pe_or h h2) fun σ H Q h => by
  obtain ⟨env, F, fp, st, h⟩ := tD_of_B h
  refine ⟨env, F, fp, st, Out.mono h fun d env1 H1 F1 fp1 t1 s1 h1 v r => ?_⟩
  obtain ⟨c, e, h2⟩ := h1 v r
  refine ⟨c, e, ?_⟩
  cases c with
  | false => exact iteF h2
  | true =>
    obtain ⟨F2, h3⟩ := tD_ret (d := .bool true) h2
    exact iteT (h3 _ (.bl true))
theorem pd_not (h : PE X a (tD (gx X) W p)) : PE X (.UnaryOp .Not a pos) (tD (gx X) W (eNotV p)) := PE.imp (pe_not h) fun σ H Q h => by
  obtain ⟨env, F, fp, st, h⟩ := tD_of_B h
  refine ⟨env, F, fp, st, Out.mono h fun d env1 H1 F1 fp1 t1 s1 h1 v r => ?_⟩
  obtain ⟨c, e, h2⟩ := h1 v r
  obtain ⟨F2, h3⟩ := tD_ret (d := .bool (!c)) h2
  exact ⟨c, e, h3 _ (.bl _)⟩
def eIf (c : En → Rs Bool) (f g : En → Rs D) : En → Rs D := fun env₀ => (bnd c fun b env => if b = true then f env else g env) env₀
theorem pd_if {c : Expr} (hc : PT X c (tT (gx X) W f)) (ha : PE X a (tD (gx X) W p)) (hb : PE X b (tD (gx X) W q)) : PE X (.IfExp c a b pos) (tD (gx X) W (eIf f p q)) := PE.imp (pe_ifExp hc ha hb) fun σ H Q ⟨env, F, fp, st, h⟩ => by
  refine ⟨env, F, fp, st, Out.mono h.bind fun b env1 H1 F1 fp1 t1 s1 h1 => ?_⟩
  cases b with
  | true => exact iteT ⟨env1, F1, fp1, s1, h1⟩
  | false => exact iteF ⟨env1, F1, fp1, s1, h1⟩
end
end
end VH
set_option Elab.async false
set_option linter.all false
set_option maxRecDepth 100000
set_option maxHeartbeats 4000000
namespace VH
open PySem PySem.Spec PyProof.Rows L2

/-! ### what comes of it -/
section
variable {K : PySem.W.Frag} {H : Hp} {F : FA} {Q : VK}
theorem Gv.int {i : Int} (g : Gv K H F (.int i) Q) : Q (.int i) H := g _ H F .refl (.int i)
theorem Gv.str {i : Str} (g : Gv K H F (.str i) Q) : Q (.str i) H := g _ H F .refl (.str i)
theorem Gv.bl {i : Bool} (g : Gv K H F (.bool i) Q) : Q (.bl i) H := g _ H F .refl (.bl i)
theorem Gv.non (g : Gv K H F .none Q) : Q .non H := g _ H F .refl .non
theorem Gv.same {v : V} {d : D} (g : Gv K H F d Q) (r : Rep K H F v d) : Q v H := g _ H F .refl r
theorem Gv.lst {vs : List V} {ds : List D} (g : Gv K H F (.list ds) Q) (r : RepA K H F vs ds) : ∀ p, H p = none → Q (.ref p) (upd H p (.lst vs)) :=
  fun p np => g _ _ _ (Nw.lay np) (.lst ⟨.inr rfl, upd_same⟩ (r.nw (Nw.lay np)))
theorem Gv.tup {vs : List V} {ds : List D} (g : Gv K H F (.tuple ds) Q) (r : RepA K H F vs ds) : ∀ p, H p = none → Q (.ref p) (upd H p (.tup vs)) :=
  fun p np => g _ _ _ (Nw.lay np) (.tup (.inl ⟨.inr rfl, upd_same⟩) (r.nw (Nw.lay np)))
end
theorem OpD.of {X : Cx} {f : Value → Value → Sem Value} {op : D → D → Option D} {r : R2} (h : OpR X f r)
    (k : ∀ (H : Hp) (F : FA) (x y : V) (d1 d2 d : D) (Q : VK), Rep X.K H F x d1 → Rep X.K H F y d2 → op d1 d2 = some d → Gv X.K H F d Q → r x y H Q) : OpD X f op :=
  fun pins s σ H F x y v u d1 d2 d Q I rv ru r1 r2 e g => h pins s σ H x y v u Q I rv ru (k H F x y d1 d2 d Q r1 r2 e g)
theorem OpD.or {X : Cx} {f : Value → Value → Sem Value} {a b op : D → D → Option D} (h : OpD X f a) (h' : OpD X f b) (k : ∀ x y d, op x y = some d → a x y = some d ∨ b x y = some d) : OpD X f op :=
  fun pins s σ H F x y v u d1 d2 d Q I rv ru r1 r2 e g => (k _ _ _ e).elim (fun e => h pins s σ H F x y v u d1 d2 d Q I rv ru r1 r2 e g) fun e => h' pins s σ H F x y v u d1 d2 d Q I rv ru r1 r2 e g

/-! ### + -/
def addI : D → D → Option D
  | .int i, .int j => some (.int (i + j))
  | _, _ => none
def addS : D → D → Option D
  | .str a, .str b => if a.length + b.length ≤ sizeLine then some (.str (a ++ b)) else none
  | _, _ => none
def addL : D → D → Option D
  | .list a, .list b => if a.length + b.length ≤ sizeLine then some (.list (a ++ b)) else none
  | _, _ => none
def addT : D → D → Option D
  | .tuple a, .tuple b => if a.length + b.length ≤ sizeLine then some (.tuple (a ++ b)) else none
  | _, _ => none
def addD : D → D → Option D
  | .int i, .int j => some (.int (i + j))
  | .str a, .str b => if a.length + b.length ≤ sizeLine then some (.str (a ++ b)) else none
  | .list a, .list b => if a.length + b.length ≤ sizeLine then some (.list (a ++ b)) else none
  | .tuple a, .tuple b => if a.length + b.length ≤ sizeLine then some (.tuple (a ++ b)) else none
  | _, _ => none
section
variable {X : Cx}
theorem od_addI : OpD X (binaryOp .Add) addI := .of op_add fun H F x y d1 d2 d Q r1 r2 e g => by
  unfold addI at e
  split at e
  · cases e; cases r1; cases r2; exact ⟨_, _, rfl, rfl, g.int⟩
  · cases e
theorem od_addS : OpD X (binaryOp .Add) addS := .of op_add_str fun H F x y d1 d2 d Q r1 r2 e g => by
  unfold addS at e
  split at e
  · split at e
    · rename_i h
      cases e; cases r1; cases r2; exact ⟨_, _, rfl, rfl, h, g.str⟩
    · cases e
  · cases e
theorem od_addL : OpD X (binaryOp .Add) addL := .of op_cat fun H F x y d1 d2 d Q r1 r2 e g => by
  unfold addL at e
  split at e
  · split at e
    · rename_i h
      cases e
      cases r1 with
      | lst f1 q1 => cases r2 with
        | lst f2 q2 => exact ⟨_, _, _, _, rfl, rfl, f1.2, f2.2, by rw [q1.length, q2.length]; exact h, g.lst (q1.append q2)⟩
    · cases e
  · cases e
theorem od_addT : OpD X (binaryOp .Add) addT := .of op_catA fun H F x y d1 d2 d Q r1 r2 e g => by
  unfold addT at e
  split at e
  · split at e
    · rename_i h
      cases e
      cases r1 with
      | tup f1 q1 => cases r2 with
        | tup f2 q2 =>
          refine ⟨_, _, _, _, rfl, rfl, f1.sq, f2.sq, by rw [q1.length, q2.length]; exact h, fun z => ?_, fun _ z => ?_, fun _ _ => g.tup (q1.append q2)⟩
          · subst z; cases q1; exact g.same (.tup f2 q2)
          · subst z; cases q2; exact g.same (by rw [List.append_nil]; exact .tup f1 q1)
    · cases e
  · cases e
theorem od_add : OpD X (binaryOp .Add) addD := .or od_addI (.or od_addS (.or od_addL od_addT (op := fun x y => (addL x y).or (addT x y)) fun x y d e => Option.or_eq_some_iff.mp e |>.imp id And.right)
    (op := fun x y => (addS x y).or ((addL x y).or (addT x y))) fun x y d e => Option.or_eq_some_iff.mp e |>.imp id And.right) fun x y d e => by
  unfold addD at e
  split at e
  · exact .inl e
  · refine .inr ?_; show Option.or (addS _ _) _ = _; unfold addS; dsimp only; rw [e]; rfl
  · refine .inr ?_; show Option.or (addS _ _) (Option.or (addL _ _) _) = _; unfold addS addL; dsimp only; rw [e]; rfl
  · refine .inr ?_; show Option.or (addS _ _) (Option.or (addL _ _) (addT _ _)) = _; unfold addS addL addT; dsimp only; rw [e]; rfl
  · cases e
/-! ### ints -/
def subD : D → D → Option D
  | .int i, .int j => some (.int (i - j))
  | _, _ => none
def mulD : D → D → Option D
  | .int i, .int j => if (-(2 ^ 64) < i ∧ i < 2 ^ 64) ∨ (-(2 ^ 64) < j ∧ j < 2 ^ 64) then some (.int (i * j)) else none
  | _, _ => none
def fdivD : D → D → Option D
  | .int i, .int j => if 0 < j ∧ j.natAbs.log2 < 9000 then some (.int (i / j)) else none
  | _, _ => none
def modD : D → D → Option D
  | .int i, .int j => if 0 < j then some (.int (i % j)) else none
  | _, _ => none
def andD : D → D → Option D
  | .int i, .int j => some (.int (Builtin.bitAnd i j))
  | _, _ => none
def shrD : D → D → Option D
  | .int i, .int j => if 0 ≤ j then some (.int (i / 2 ^ j.toNat)) else none
  | _, _ => none
theorem od_sub : OpD X (binaryOp .Sub) subD := .of op_sub fun H F x y d1 d2 d Q r1 r2 e g => by
  unfold subD at e
  split at e
  · cases e; cases r1; cases r2; exact ⟨_, _, rfl, rfl, g.int⟩
  · cases e
theorem od_mul : OpD X (binaryOp .Mult) mulD := .of op_mul fun H F x y d1 d2 d Q r1 r2 e g => by
  unfold mulD at e
  split at e
  · split at e
    · rename_i h
      cases e; cases r1; cases r2; exact ⟨_, _, rfl, rfl, h, g.int⟩
    · cases e
  · cases e
theorem od_fdiv : OpD X (binaryOp .FloorDiv) fdivD := .of op_fdivW fun H F x y d1 d2 d Q r1 r2 e g => by
  unfold fdivD at e
  split at e
  · split at e
    · rename_i h
      cases e; cases r1; cases r2; exact ⟨_, _, rfl, rfl, h, g.int⟩
    · cases e
  · cases e
theorem od_mod : OpD X (binaryOp .Mod) modD := .of op_mod fun H F x y d1 d2 d Q r1 r2 e g => by
  unfold modD at e
  split at e
  · split at e
    · rename_i h
      cases e; cases r1; cases r2; exact ⟨_, _, rfl, rfl, h, g.int⟩
    · cases e
  · cases e
theorem od_and : OpD X (binaryOp .BitAnd) andD := .of op_and fun H F x y d1 d2 d Q r1 r2 e g => by
  unfold andD at e
  split at e
  · cases e; cases r1; cases r2; exact ⟨_, _, rfl, rfl, g.int⟩
  · cases e
theorem od_shr : OpD X (binaryOp .RShift) shrD := .of op_shr fun H F x y d1 d2 d Q r1 r2 e g => by
  unfold shrD at e
  split at e
  · split at e
    · rename_i h
      cases e; cases r1; cases r2; exact ⟨_, _, rfl, rfl, h, g.int⟩
    · cases e
  · cases e
end
/-! ### ==, != -/
mutual
theorem Rep.dp {K : PySem.W.Frag} {H : Hp} {F : FA} : ∀ {v : V} {d : D}, Rep K H F v d → d.canLay0 = true → Dp K H v d
  | _, _, .non, _ => .non
  | _, _, .bl b, _ => .bl b
  | _, _, .int i, _ => .int i
  | _, _, .str x, _ => .str x
  | _, _, .lst f r, c => .lst f.sq (RepA.dp r c)
  | _, _, .tup f r, c => .tup f.sq (RepA.dp r c)
  | _, _, .dic f r, c => by cases c
theorem RepA.dp {K : PySem.W.Frag} {H : Hp} {F : FA} : ∀ {v : List V} {d : List D}, RepA K H F v d → PyData.canLayAll0 d = true → DpAll K H v d
  | _, _, .nil, _ => .nil
  | _, _, .cons h t, c => .cons (Rep.dp h (Bool.and_eq_true_iff.mp c).1) (RepA.dp t (Bool.and_eq_true_iff.mp c).2)
end
/-- == of data without dicts -/
def eqS : D → D → Option Bool
  | .int i, .int j => some (i == j)
  | .str i, .str j => some (i == j)
  | .bool i, .bool j => some (i == j)
  | .none, .none => some true
  | .none, .int _ => some false
  | .int _, .none => some false
  | .none, .bool _ => some false
  | .bool _, .none => some false
  | .none, .str _ => some false
  | .str _, .none => some false
  | .int _, .str _ => some false
  | .str _, .int _ => some false
  | .bool _, .str _ => some false
  | .str _, .bool _ => some false
  | a, b => if SeqAt.shaped a = true ∧ SeqAt.shaped b = true then some (a.eqv b) else none
def scalD : D → Bool
  | .none => true | .bool _ => true | .int _ => true | .str _ => true
  | _ => false
def eqD (a b : D) : Option D := (eqS a b).map .bool
def neD (a b : D) : Option D := (eqS a b).map fun c => .bool (!c)
theorem eqS_cases {a b : D} {c : Bool} (h : eqS a b = some c) : (∀ {K : PySem.W.Frag} {H : Hp} {F : FA} {x y : V}, Rep K H F x a → Rep K H F y b → scal x y = true ∧ decide (x = y) = c) ∨ (SeqAt.shaped a = true ∧ SeqAt.shaped b = true ∧ a.eqv b = c) := by
  unfold eqS at h
  split at h
  all_goals first
    | (split at h
       · rename_i k; cases h; exact .inr ⟨k.1, k.2, rfl⟩
       · cases h)
    | (cases h
       refine .inl fun {K H F x y} r1 r2 => ?_
       cases r1; cases r2
       first
         | exact ⟨rfl, dec_int⟩
         | exact ⟨rfl, dec_str⟩
         | exact ⟨rfl, dec_bl⟩
         | exact ⟨rfl, rfl⟩
         | exact ⟨rfl, decide_eq_false fun z => by cases z⟩)
section
variable {X : Cx}
theorem od_eq (hu : X.A.units + 64 < cLine) : OpD X (compareOp .Eq) eqD := fun pins s σ H F x y v u d1 d2 d Q I rv ru r1 r2 e g => by
  obtain ⟨c, e', rfl⟩ := Option.map_eq_some_iff.mp e
  rcases eqS_cases e' with k | ⟨k1, k2, k⟩
  · obtain ⟨z1, z2⟩ := k r1 r2
    exact op_eq pins s σ H x y v u Q I rv ru ⟨z1, z2 ▸ g.bl⟩
  · exact op_eqD hu pins s σ H x y v u Q I rv ru ⟨d1, d2, r1.dp (SeqAt.canLay_of_shaped k1), r2.dp (SeqAt.canLay_of_shaped k2), k1, k2, k ▸ g.bl⟩
theorem od_ne (hu : X.A.units + 64 < cLine) : OpD X (compareOp .NotEq) neD := fun pins s σ H F x y v u d1 d2 d Q I rv ru r1 r2 e g => by
  obtain ⟨c, e', rfl⟩ := Option.map_eq_some_iff.mp e
  rcases eqS_cases e' with k | ⟨k1, k2, k⟩
  · obtain ⟨z1, z2⟩ := k r1 r2
    exact op_ne pins s σ H x y v u Q I rv ru ⟨z1, z2 ▸ g.bl⟩
  · exact op_neD hu pins s σ H x y v u Q I rv ru ⟨d1, d2, r1.dp (SeqAt.canLay_of_shaped k1), r2.dp (SeqAt.canLay_of_shaped k2), k1, k2, k ▸ g.bl⟩
/-! ### order -/
def ltD : D → D → Option D
  | .int i, .int j => some (.bool (decide (i < j)))
  | .str i, .str j => some (.bool (decide (i.cps.toList < j.cps.toList)))
  | _, _ => none
def gtD : D → D → Option D
  | .int i, .int j => some (.bool (decide (j < i)))
  | .str i, .str j => some (.bool (decide (j.cps.toList < i.cps.toList)))
  | _, _ => none
def leD : D → D → Option D
  | .int i, .int j => some (.bool (decide (i ≤ j)))
  | .str i, .str j => some (.bool (!decide (j.cps.toList < i.cps.toList)))
  | _, _ => none
def geD : D → D → Option D
  | .int i, .int j => some (.bool (decide (j ≤ i)))
  | .str i, .str j => some (.bool (!decide (i.cps.toList < j.cps.toList)))
  | _, _ => none
theorem od_lt : OpD X (compareOp .Lt) ltD := .of (.or op_lt op_lt_str) fun H F x y d1 d2 d Q r1 r2 e g => by
  unfold ltD at e
  split at e
  · cases e; cases r1; cases r2; exact .inl ⟨_, _, rfl, rfl, g.bl⟩
  · cases e; cases r1; cases r2; exact .inr ⟨_, _, rfl, rfl, g.bl⟩
  · cases e
theorem od_gt : OpD X (compareOp .Gt) gtD := .of (.or op_gt op_gt_str) fun H F x y d1 d2 d Q r1 r2 e g => by
  unfold gtD at e
  split at e
  · cases e; cases r1; cases r2; exact .inl ⟨_, _, rfl, rfl, g.bl⟩
  · cases e; cases r1; cases r2; exact .inr ⟨_, _, rfl, rfl, g.bl⟩
  · cases e
theorem od_le : OpD X (compareOp .LtE) leD := .of (.or op_le op_le_str) fun H F x y d1 d2 d Q r1 r2 e g => by
  unfold leD at e
  split at e
  · cases e; cases r1; cases r2; exact .inl ⟨_, _, rfl, rfl, g.bl⟩
  · cases e; cases r1; cases r2; exact .inr ⟨_, _, rfl, rfl, g.bl⟩
  · cases e
theorem od_ge : OpD X (compareOp .GtE) geD := .of (.or op_ge op_ge_str) fun H F x y d1 d2 d Q r1 r2 e g => by
  unfold geD at e
  split at e
  · cases e; cases r1; cases r2; exact .inl ⟨_, _, rfl, rfl, g.bl⟩
  · cases e; cases r1; cases r2; exact .inr ⟨_, _, rfl, rfl, g.bl⟩
  · cases e
/-! ### is None -/
def isN : D → Bool
  | .none => true
  | _ => false
theorem Rep.isN {K : PySem.W.Frag} {H : Hp} {F : FA} {v : V} {d : D} (r : Rep K H F v d) : decide (v = .non) = VH.isN d := by
  cases r <;> first | rfl | exact decide_eq_false fun z => by cases z
def eIsN (f : En → Rs D) : En → Rs D := fun env₀ => (bnd f fun d => ret (.bool (isN d))) env₀
def eNotN (f : En → Rs D) : En → Rs D := fun env₀ => (bnd f fun d => ret (.bool (!isN d))) env₀
variable {W : WX} {a : Expr} {f : En → Rs D} {pos : Pos}
theorem pd_isN {j pos'} (h : PE X a (tD (gx X) W f)) : PE X (.Compare a [.Is] [.Constant .none j pos'] pos) (tD (gx X) W (eIsN f)) := PE.imp (pe_cmp (pc_isN h) rfl) fun σ H Q ⟨env, F, fp, st, h⟩ =>
  ⟨env, F, fp, st, Out.mono h.bind fun d env1 H1 F1 fp1 t1 s1 h1 v r => by show Q (.bl (decide (v = .non))) H1; rw [r.isN]; exact h1 H1 F1 fp1 .refl s1 _ (.bl _)⟩
theorem pd_notN {j pos'} (h : PE X a (tD (gx X) W f)) : PE X (.Compare a [.IsNot] [.Constant .none j pos'] pos) (tD (gx X) W (eNotN f)) := PE.imp (pe_cmp (pc_notN h) rfl) fun σ H Q ⟨env, F, fp, st, h⟩ =>
  ⟨env, F, fp, st, Out.mono h.bind fun d env1 H1 F1 fp1 t1 s1 h1 v r => by show Q (.bl (!decide (v = .non))) H1; rw [r.isN]; exact h1 H1 F1 fp1 .refl s1 _ (.bl _)⟩
/-! ### one-place operations -/
def negD : D → Option D
  | .int i => some (.int (-i))
  | _ => none
def eUn (op : D → Option D) (f : En → Rs D) : En → Rs D := fun env₀ => (bnd f fun d => lift (op d)) env₀
def UnD (X : Cx) (f : Value → Sem Value) (op : D → Option D) : Prop := ∀ (pins : List (Addr × Obj)) (s : Shared) (σ : Sg) (H : Hp) (F : FA) (x : V) (v : Value) (d1 d : D) (Q : VK), Inv X pins σ H s → RelV x v → Rep X.K H F x d1 → op d1 = some d →
    Gv X.K H F d Q → wpAny (model X.prog X.w) X.A (f v) (EP X pins σ Q) X.xe s
theorem tD_un {op : D → Option D} {σ : Sg} {H : Hp} {Q : VK} (h : tD (gx X) W (eUn op f) σ H Q) : tD (gx X) W f σ H fun x H1 => ∃ F1 d1 d, Rep X.K H1 F1 x d1 ∧ op d1 = some d ∧ Gv X.K H1 F1 d Q := by
  obtain ⟨env, F, fp, st, h⟩ := h
  refine ⟨env, F, fp, st, Out.mono h.bind fun d1 env1 H1 F1 fp1 t1 s1 h1 v1 r1 => ?_⟩
  obtain ⟨d, e, h2⟩ := h1.lift
  exact ⟨F1, d1, d, r1, e, fun v H' F' n r => h2 H' F' fp1 n.tr (n.sta s1) v r⟩
theorem ud_neg : UnD X (unaryOp .USub) negD := fun pins s σ H F x v d1 d Q I rv r e g => un_neg pins s σ H x v Q I rv (by
  unfold negD at e
  split at e
  · cases e; cases r; exact ⟨_, rfl, g.int⟩
  · cases e)
theorem pd_un {o : UnaryOp} {op : D → Option D} (ho : UnD X (unaryOp o) op) (h : PE X a (tD (gx X) W f)) : PE X (.UnaryOp o a pos) (tD (gx X) W (eUn op f)) := by
  refine ⟨fun pins s σ H Q I hw => ?_⟩
  refine UnaryOp_ (thn (h.run pins s σ H _ I (tD_un hw)) fun v s1 ⟨x, H1, I1, r1, F1, d1, d, q1, e, g⟩ => ?_)
  exact ho pins s1 σ H1 F1 x v d1 d Q I1 r1 q1 e g
end
end VH
set_option Elab.async false
set_option linter.all false
set_option maxRecDepth 100000
set_option maxHeartbeats 4000000
namespace VH
open PySem PySem.Spec PyProof.Rows L2

/-! ### argument lists, displays -/
def eNil : En → Rs (List D) := fun env₀ => (ret []) env₀
def eCons (f : En → Rs D) (g : En → Rs (List D)) : En → Rs (List D) := fun env₀ => (bnd f fun d => bnd g fun ds => ret (d :: ds)) env₀
def tupD (ds : List D) : Option D := if ds.length ≤ 1000 then some (.tuple ds) else none
def lstD (ds : List D) : Option D := if ds.length ≤ 1000 then some (.list ds) else none
def eAll (op : List D → Option D) (g : En → Rs (List D)) : En → Rs D := fun env₀ => (bnd g fun ds => lift (op ds)) env₀
section
variable {X : Cx} {W : WX} {e : Expr} {es : List Expr} {f : En → Rs D} {g : En → Rs (List D)} {pos : Pos}
theorem pad_nil : PA X [] (tAs (gx X) W eNil) := PA.imp pa_nil fun σ H Q ⟨env, F, fp, st, h⟩ => h H F fp .refl st _ .nil
theorem pad_cons (ha : PE X e (tD (gx X) W f)) (hr : PA X es (tAs (gx X) W g)) (hs : starEach (e :: es) X.env = (false, eval e X.env) :: starEach es X.env := by rfl) : PA X (e :: es) (tAs (gx X) W (eCons f g)) := PA.imp (pa_cons ha hr hs) fun σ H Q h => by
  obtain ⟨env, F, fp, st, h⟩ := h
  refine ⟨env, F, fp, st, Out.mono h.bind fun d env1 H1 F1 fp1 t1 s1 h1 v r => ?_⟩
  refine ⟨env1, F1, fp1, s1, Out.mono h1.bind fun ds env2 H2 F2 fp2 t2 s2 h2 vs rs => ?_⟩
  exact h2 H2 F2 fp2 .refl s2 _ (.cons (r.tr s1.re t2) rs)
theorem tD_all {op : List D → Option D} {σ : Sg} {H : Hp} {Q : VK} (h : tD (gx X) W (eAll op g) σ H Q) : tAs (gx X) W g σ H fun vs H1 => ∃ F1 ds d, RepA X.K H1 F1 vs ds ∧ op ds = some d ∧ Gv X.K H1 F1 d Q := by
  obtain ⟨env, F, fp, st, h⟩ := h
  refine ⟨env, F, fp, st, Out.mono h.bind fun ds env1 H1 F1 fp1 t1 s1 h1 v1 r1 => ?_⟩
  obtain ⟨d, e, h2⟩ := h1.lift
  exact ⟨F1, ds, d, r1, e, fun v H' F' n r => h2 H' F' fp1 n.tr (n.sta s1) v r⟩
theorem tAs_imp {σ : Sg} {H : Hp} {Q Q' : List V → Hp → Prop} (h : tAs (gx X) W g σ H Q) (k : ∀ v H, Q v H → Q' v H) : tAs (gx X) W g σ H Q' := by
  obtain ⟨env, F, fp, st, h⟩ := h
  exact ⟨env, F, fp, st, Out.mono h fun ds env1 H1 F1 fp1 t1 s1 h1 v1 r1 => k _ _ (h1 v1 r1)⟩
theorem tD_imp {σ : Sg} {H : Hp} {Q Q' : VK} (h : tD (gx X) W f σ H Q) (k : ∀ v H, Q v H → Q' v H) : tD (gx X) W f σ H Q' := by
  obtain ⟨env, F, fp, st, h⟩ := h
  exact ⟨env, F, fp, st, Out.mono h fun ds env1 H1 F1 fp1 t1 s1 h1 v1 r1 => k _ _ (h1 v1 r1)⟩
theorem le_line {n : Nat} (h : n ≤ 1000) : n ≤ sizeLine := Nat.le_of_lt (small1000 h)
theorem pd_tup {x1} (h : PA X es (tAs (gx X) W g)) : PE X (.Tuple es x1 pos) (tD (gx X) W (eAll tupD g)) := PE.imp (pe_tup h) fun σ H Q hw => by
  refine tAs_imp (tD_all hw) fun vs H1 ⟨F1, ds, d, r, e, q⟩ => ?_
  unfold tupD at e
  split at e
  · cases e; exact ⟨by rw [r.length]; exact le_line (by assumption), q.tup r⟩
  · cases e
theorem pd_lst (h : PA X es (tAs (gx X) W g)) : PE X (.List es pos) (tD (gx X) W (eAll lstD g)) := PE.imp (pe_lst h) fun σ H Q hw => by
  refine tAs_imp (tD_all hw) fun vs H1 ⟨F1, ds, d, r, e, q⟩ => ?_
  unfold lstD at e
  split at e
  · cases e; exact ⟨by rw [r.length]; exact le_line (by assumption), q.lst r⟩
  · cases e
/-! ### built-in functions -/
def rDs (K : PySem.W.Frag) (op : List D → Option D) : List V → Hp → VK → Prop := fun vs H Q => ∃ F ds d, RepA K H F vs ds ∧ op ds = some d ∧ Gv K H F d Q
abbrev CallD (X : Cx) (f : Value) (op : List D → Option D) : Prop := CallR X f (rDs X.K op)
theorem pd_callB {x : Str} {id : String} {op : List D → Option D} {p : Pos} (hc : CallD X (.builtin id) op) (hg : Gl X x) (hm : X.mg x = none) (hv : bootBuiltins x = some (.builtin id)) (ha : PA X (e :: es) (tAs (gx X) W g))
    (hn : x ≠ "__name__" := by decide) (hdb : (x == ("__debug__" : Str)) = false := by decide) (he : starEach (e :: es) X.env = (false, eval e X.env) :: starEach es X.env := by rfl) (hpl : (backTo pos (starEach es X.env)).any (·.1) = false := by rfl) :
    PE X (.Call (.Name x p) (e :: es) [] pos) (tD (gx X) W (eAll op g)) := PE.imp (pe_callB hc hg hm hv ha hn hdb he hpl) fun σ H Q hw => tAs_imp (tD_all hw) fun vs H1 q => q
theorem pd_callTy {x : Str} {T : String} {op : List D → Option D} {p : Pos} (hc : CallD X (.type T) op) (hg : Gl X x) (hm : X.mg x = none) (hv : bootBuiltins x = some (.type T)) (ha : PA X (e :: es) (tAs (gx X) W g))
    (hn : x ≠ "__name__" := by decide) (hdb : (x == ("__debug__" : Str)) = false := by decide) (he : starEach (e :: es) X.env = (false, eval e X.env) :: starEach es X.env := by rfl) (hpl : (backTo pos (starEach es X.env)).any (·.1) = false := by rfl) :
    PE X (.Call (.Name x p) (e :: es) [] pos) (tD (gx X) W (eAll op g)) := PE.imp (pe_callTy hc hg hm hv ha hn hdb he hpl) fun σ H Q hw => tAs_imp (tD_all hw) fun vs H1 q => q
theorem CallD.of {f : Value} {op : List D → Option D} {r : List V → Hp → VK → Prop} (h : CallR X f r)
    (k : ∀ (H : Hp) (F : FA) (vs : List V) (ds : List D) (d : D) (Q : VK), RepA X.K H F vs ds → op ds = some d → Gv X.K H F d Q → r vs H Q) : CallD X f op :=
  fun pins s σ H xs us Q I rv ⟨F, ds, d, r, e, g⟩ => h pins s σ H xs us Q I rv (k H F xs ds d Q r e g)
theorem RepA.one {K : PySem.W.Frag} {H : Hp} {F : FA} {vs : List V} {d : D} (h : RepA K H F vs [d]) : ∃ v, vs = [v] ∧ Rep K H F v d := by
  cases h with
  | cons r t => cases t; exact ⟨_, rfl, r⟩
def lenD : List D → Option D
  | [.str x] => if x.length ≤ sizeLine then some (.int x.length) else none
  | [.list x] => some (.int x.length)
  | [.tuple x] => some (.int x.length)
  | [.dict x] => some (.int x.length)
  | _ => none
theorem RepK.length {K : PySem.W.Frag} {H : Hp} {F : FA} : ∀ {vs : List (Key × V)} {ds : List (D × D)}, RepK K H F vs ds → vs.length = ds.length
  | _, _, .nil => rfl
  | _, _, .cons _ t => by rw [List.length_cons, List.length_cons, RepK.length t]
theorem cd_len : CallD X (.builtin "len") lenD := fun pins s σ H xs us Q I rv ⟨F, ds, d, r, e, g⟩ => by
  unfold lenD at e
  split at e
  · split at e
    · rename_i h
      cases e
      obtain ⟨v, rfl, q0⟩ := r.one
      cases q0
      exact call_len pins s σ H _ us Q I rv ⟨V.str _, _, rfl, And.intro h rfl, g.int⟩
    · cases e
  · cases e
    obtain ⟨v, rfl, q0⟩ := r.one
    cases q0 with
    | lst f q => exact call_len pins s σ H _ us Q I rv ⟨_, _, rfl, .inl ⟨_, f.sq, q.length.symm⟩, g.int⟩
  · cases e
    obtain ⟨v, rfl, q0⟩ := r.one
    cases q0 with
    | tup f q => exact call_len pins s σ H _ us Q I rv ⟨_, _, rfl, .inr ⟨_, f.sq, q.length.symm⟩, g.int⟩
  · cases e
    obtain ⟨v, rfl, q0⟩ := r.one
    cases q0 with
    | dic f q =>
      obtain ⟨u, rfl, ru⟩ := vals1 rv
      cases ru
      refine d_len I f.2 fun t s' I' => ⟨V.int _, H, I', ⟨t, rfl⟩, ?_⟩
      rw [q.length]
      exact g.int
  · cases e
def absD : List D → Option D
  | [.int i] => some (.int (if i < 0 then -i else i))
  | _ => none
theorem cd_abs : CallD X (.builtin "abs") absD := .of call_abs fun H F vs ds d Q r e g => by
  unfold absD at e
  split at e
  · cases e
    obtain ⟨v, rfl, q0⟩ := r.one
    cases q0
    exact ⟨_, rfl, g.int⟩
  · cases e
def intD : List D → Option D
  | [.int i] => some (.int i)
  | [.bool b] => some (.int (if b then 1 else 0))
  | _ => none
theorem cd_int : CallD X (.type "int") intD := .of call_int1 fun H F vs ds d Q r e g => by
  unfold intD at e
  split at e
  · cases e
    obtain ⟨v, rfl, q0⟩ := r.one
    cases q0
    exact .inl ⟨_, rfl, g.int⟩
  · cases e
    obtain ⟨v, rfl, q0⟩ := r.one
    cases q0
    exact .inr ⟨_, rfl, g.int⟩
  · cases e
def strOfD : List D → Option D
  | [.int i] => if i.natAbs.log2 < 1920 then some (.str (toString i)) else none
  | _ => none
theorem cd_str : CallD X (.type "str") strOfD := .of call_str_int fun H F vs ds d Q r e g => by
  unfold strOfD at e
  split at e
  · split at e
    · rename_i h
      cases e
      obtain ⟨v, rfl, q0⟩ := r.one
      cases q0
      exact ⟨_, rfl, h, g.str⟩
    · cases e
  · cases e
def ordD : List D → Option D
  | [.str x] => if x.length = 1 then some (.int (x.cps.getD 0 0 : Nat)) else none
  | _ => none
theorem cd_ord : CallD X (.builtin "ord") ordD := .of call_ord fun H F vs ds d Q r e g => by
  unfold ordD at e
  split at e
  · split at e
    · rename_i h
      cases e
      obtain ⟨v, rfl, q0⟩ := r.one
      cases q0
      exact ⟨_, rfl, h, g.int⟩
    · cases e
  · cases e
def listOfD : List D → Option D
  | [.list x] => some (.list x)
  | [.tuple x] => some (.list x)
  | _ => none
theorem cd_list : CallD X (.type "list") listOfD := .of call_list_of fun H F vs ds d Q r e g => by
  unfold listOfD at e
  split at e
  · cases e
    obtain ⟨v, rfl, q0⟩ := r.one
    cases q0 with
    | lst f q => exact ⟨_, _, rfl, .inl f.sq, g.lst q⟩
  · cases e
    obtain ⟨v, rfl, q0⟩ := r.one
    cases q0 with
    | tup f q => exact ⟨_, _, rfl, .inr f.sq, g.lst q⟩
  · cases e
def tupOfD : List D → Option D
  | [.list x] => some (.tuple x)
  | [.tuple x] => some (.tuple x)
  | _ => none
theorem cd_tuple : CallD X (.type "tuple") tupOfD := .of call_tuple_of fun H F vs ds d Q r e g => by
  unfold tupOfD at e
  split at e
  · cases e
    obtain ⟨v, rfl, q0⟩ := r.one
    cases q0 with
    | lst f q => exact ⟨_, _, rfl, .inl ⟨f.sq, g.tup q⟩⟩
  · cases e
    obtain ⟨v, rfl, q0⟩ := r.one
    cases q0 with
    | tup f q => exact ⟨_, _, rfl, .inr ⟨f.sq, g.same (.tup f q)⟩⟩
  · cases e
/-! ### isinstance -/
def tyD : D → String
  | .none => "NoneType" | .bool _ => "bool" | .int _ => "int" | .str _ => "str" | .list _ => "list" | .tuple _ => "tuple" | .dict _ => "dict"
theorem Rep.tyx {K : PySem.W.Frag} {H : Hp} {F : FA} {v : V} {d : D} (r : Rep K H F v d) : TyX K H v (.type (tyD d)) := by
  cases r with
  | non => exact .base .non
  | bl b => exact .base (.bl b)
  | int i => exact .base (.int i)
  | str x => exact .base (.str x)
  | lst f q => exact .base (.lst f.2)
  | tup f q =>
    rcases f with f | f
    · exact .base (.tup f.2)
    · rcases f with (h | ⟨o, h⟩) | ⟨o, its, n, h1, h2, _⟩
      · cases h
      · cases h
      · exact .kTuple h1 h2
  | dic f q =>
    rcases f.2 with h | ⟨o, h⟩
    · exact .base (.dK h)
    · exact .fDict h
def isiD (T : String) (d : D) : Bool := (kitB (tyD d) T).getD false
def eIsi (T : String) (f : En → Rs D) : En → Rs D := fun env₀ => (bnd f fun d => if (kitB (tyD d) T).isSome = true then ret (.bool (isiD T d)) else fun _ => .bad) env₀
theorem ty_all {P : String → Prop} (h1 : P "NoneType") (h2 : P "bool") (h3 : P "int") (h4 : P "str") (h5 : P "list") (h6 : P "tuple") (h7 : P "dict") (d : D) : P (tyD d) := by cases d <;> assumption
/-- isinstance(a, T) -/
theorem pd_isi {x T : Str} {t : String} {p p2 : Pos} {b : D → Bool} (hk : ∀ d, kitB (tyD d) t = some (b d)) (hg : Gl X x) (hm : X.mg x = none) (hv : bootBuiltins x = some (.builtin "isinstance")) (hgT : Gl X T) (hmT : X.mg T = none) (hvT : bootBuiltins T = some (.type t))
    (h : PE X e (tD (gx X) W f)) (hn : x ≠ "__name__" := by decide) (hdb : (x == ("__debug__" : Str)) = false := by decide) (hnT : T ≠ "__name__" := by decide) (hdbT : (T == ("__debug__" : Str)) = false := by decide)
    (he : starEach [e, .Name T p2] X.env = (false, eval e X.env) :: starEach [.Name T p2] X.env := by rfl) (hpl : (backTo pos (starEach [.Name T p2] X.env)).any (·.1) = false := by rfl)
    (he2 : starEach [.Name T p2] X.env = (false, eval (.Name T p2) X.env) :: starEach [] X.env := by rfl) :
    PE X (.Call (.Name x p) [e, .Name T p2] [] pos) (tD (gx X) W (bnd f fun d => ret (.bool (b d)))) :=
  PE.imp (pe_callB call_isi hg hm hv (pa_cons h (pa_cons (pe_bltn (v := .ty t) hgT hmT hvT rfl hnT hdbT) pa_nil he2) he) hn hdb he hpl) fun σ H Q ⟨env, F, fp, st, h⟩ =>
    ⟨env, F, fp, st, Out.mono h.bind fun d env1 H1 F1 fp1 t1 s1 h1 v r => ⟨v, .ty t, _, _, b d, rfl, .ty t, r.tyx, kit_ty (hk d), h1 H1 F1 fp1 .refl s1 _ (.bl _)⟩⟩
/-- isinstance(a, (T, U)) -/
theorem pd_isi2 {x T U : Str} {t u : String} {p p2 p3 p4 : Pos} {k4} {b c : D → Bool} (hk : ∀ d, kitB (tyD d) t = some (b d)) (hk2 : ∀ d, kitB (tyD d) u = some (c d)) (hg : Gl X x) (hm : X.mg x = none) (hv : bootBuiltins x = some (.builtin "isinstance"))
    (hgT : Gl X T) (hmT : X.mg T = none) (hvT : bootBuiltins T = some (.type t)) (hgU : Gl X U) (hmU : X.mg U = none) (hvU : bootBuiltins U = some (.type u))
    (h : PE X e (tD (gx X) W f)) (hn : x ≠ "__name__" := by decide) (hdb : (x == ("__debug__" : Str)) = false := by decide) (hnT : T ≠ "__name__" := by decide) (hdbT : (T == ("__debug__" : Str)) = false := by decide) (hnU : U ≠ "__name__" := by decide) (hdbU : (U == ("__debug__" : Str)) = false := by decide)
    (he : starEach [e, .Tuple [.Name T p2, .Name U p3] k4 p4] X.env = (false, eval e X.env) :: starEach [.Tuple [.Name T p2, .Name U p3] k4 p4] X.env := by rfl) (hpl : (backTo pos (starEach [.Tuple [.Name T p2, .Name U p3] k4 p4] X.env)).any (·.1) = false := by rfl)
    (he2 : starEach [.Tuple [.Name T p2, .Name U p3] k4 p4] X.env = (false, eval (.Tuple [.Name T p2, .Name U p3] k4 p4) X.env) :: starEach [] X.env := by rfl)
    (he3 : starEach [.Name T p2, .Name U p3] X.env = (false, eval (.Name T p2) X.env) :: starEach [.Name U p3] X.env := by rfl) (he4 : starEach [.Name U p3] X.env = (false, eval (.Name U p3) X.env) :: starEach [] X.env := by rfl) :
    PE X (.Call (.Name x p) [e, .Tuple [.Name T p2, .Name U p3] k4 p4] [] pos) (tD (gx X) W (bnd f fun d => ret (.bool (b d || c d)))) :=
  PE.imp (pe_callB call_isiT hg hm hv (pa_cons h (pa_cons (pe_tup (pa_cons (pe_bltn (v := .ty t) hgT hmT hvT rfl hnT hdbT) (pa_cons (pe_bltn (v := .ty u) hgU hmU hvU rfl hnU hdbU) pa_nil he4) he3)) pa_nil he2) he) hn hdb he hpl) fun σ H Q ⟨env, F, fp, st, h⟩ =>
    ⟨env, F, fp, st, Out.mono h.bind fun d env1 H1 F1 fp1 t1 s1 h1 v r => ⟨show 2 ≤ sizeLine by decide, fun q nq =>
      ⟨v, q, _, _, [.type t, .type u], b d || c d, rfl, upd_same, .cons (.ty t) (.cons (.ty u) .nil), (r.nw (Nw.lay nq)).tyx,
        kitAny_cons (kit_ty (hk d)) (fun z => kitAny_cons (kit_ty (hk2 d)) (fun z2 => by rw [z, z2]; exact kitAny_nil) fun z2 => by rw [z, z2]; rfl) fun z => by rw [z]; rfl,
        h1 _ _ fp1 (Nw.lay nq).tr ((Nw.lay nq).sta s1) _ (.bl _)⟩⟩⟩
/-! ### subscripts -/
def keyOf : D → Option Key
  | .int i => some (.inl i)
  | .str x => some (.inr x)
  | _ => none
theorem keyOf_kD (k : Key) : keyOf (kD k) = some k := by cases k <;> rfl
theorem Rep.key {K : PySem.W.Frag} {H : Hp} {F : FA} {v : V} {d : D} {k : Key} (r : Rep K H F v d) (e : keyOf d = some k) : v = kV k := by
  cases r <;> cases e <;> rfl
def lookK : List (D × D) → Key → Option D
  | [], _ => none
  | (a, b) :: r, k => if keyOf a = some k then some b else lookK r k
theorem RepK.look {K : PySem.W.Frag} {H : Hp} {F : FA} {k : Key} : ∀ {vs : List (Key × V)} {ds : List (D × D)}, RepK K H F vs ds → (∀ d, lookK ds k = some d → ∃ v, valV vs k = some v ∧ Rep K H F v d) ∧ (lookK ds k = none → valV vs k = none)
  | _, _, .nil => ⟨fun d (e : (none : Option D) = some d) => (nomatch e), fun _ => rfl⟩
  | _, _, .cons (k := j) (v := v) (d := d0) (vs := vs) (ds := ds) h t => by
    obtain ⟨i1, i2⟩ := RepK.look (k := k) t
    unfold lookK
    rw [keyOf_kD]
    by_cases e : j = k
    · rw [if_pos (by rw [e]), valV_pos (p := (j, v)) e]
      exact ⟨fun d q => by cases q; exact ⟨_, rfl, h⟩, fun q => by cases q⟩
    · rw [if_neg (fun q => e (Option.some.inj q)), valV_neg (p := (j, v)) e]
      exact ⟨i1, i2⟩
def idxD : D → D → Option D
  | .list ds, .int i => atI ds i
  | .tuple ds, .int i => atI ds i
  | .str z, .int i => if z.length ≤ sizeLine then (atI z.cps.toList i).map fun c => .str ⟨#[c]⟩ else none
  | .dict kvs, d => (keyOf d).bind (lookK kvs)
  | _, _ => none
theorem RepA.at {K : PySem.W.Frag} {H : Hp} {F : FA} {vs : List V} {ds : List D} {i : Int} {d : D} (r : RepA K H F vs ds) (e : atI ds i = some d) : ∃ v, atI vs i = some v ∧ Rep K H F v d := by
  unfold atI at e ⊢
  obtain ⟨j, e1, e2⟩ := Option.bind_eq_some_iff.mp e
  obtain ⟨v, e3, q⟩ := r.get e2
  exact ⟨v, by rw [r.length, e1]; exact e3, q⟩
theorem ix_dict (hu : X.A.units + 1 < cLine) : IxR X (fun x y H Q => ∃ a v, x = .ref a ∧ DGet H a y (some v) ∧ Q v H) := by
  intro value slice pins s σ H x y v u Q I rx ry h hs
  obtain ⟨a, z, rfl, g, q⟩ := h
  cases rx
  exact tail_any (dict_typeIs I g) PySem.F.slot_dict_getitem.lookup (d_getItem hu I g ry fun w' s3 I3 rw' => ⟨z, H, I3, rw', q⟩) hs
theorem ix_any (hu : X.A.units + 1 < cLine) : IxR X (fun x y H Q => ∃ F d1 d2 d, Rep X.K H F x d1 ∧ Rep X.K H F y d2 ∧ idxD d1 d2 = some d ∧ Gv X.K H F d Q) := by
  intro value slice pins s σ H x y v u Q I rx ry h hs
  obtain ⟨F, d1, d2, d, r1, r2, e, g⟩ := h
  unfold idxD at e
  split at e
  · cases r1 with
    | lst f q =>
      cases r2
      obtain ⟨z, e1, q1⟩ := q.at e
      exact ix_list value slice pins s σ H _ _ v u Q I rx ry ⟨_, _, _, _, rfl, rfl, f.sq, e1, g.same q1⟩ hs
  · cases r1 with
    | tup f q =>
      cases r2
      obtain ⟨z, e1, q1⟩ := q.at e
      exact ix_tup value slice pins s σ H _ _ v u Q I rx ry ⟨_, _, _, _, rfl, rfl, f.sq, e1, g.same q1⟩ hs
  · split at e
    · rename_i hz
      cases r1
      cases r2
      obtain ⟨c, e1, rfl⟩ := Option.map_eq_some_iff.mp e
      exact ix_str value slice pins s σ H _ _ v u Q I rx ry ⟨_, _, _, rfl, rfl, hz, e1, g.str⟩ hs
    · cases e
  · cases r1 with
    | dic f q =>
      obtain ⟨k, e1, e2⟩ := Option.bind_eq_some_iff.mp e
      obtain ⟨z, e3, q3⟩ := (q.look (k := k)).1 _ e2
      exact ix_dict hu value slice pins s σ H _ _ v u Q I rx ry ⟨_, z, rfl, .inl ⟨_, k, f.2, r2.key e1, e3.symm⟩, g.same q3⟩ hs
  · cases e
theorem pd_ix {a b : Expr} {p q : En → Rs D} (hu : X.A.units + 1 < cLine) (ha : PE X a (tD (gx X) W p)) (hb : PE X b (tD (gx X) W q)) (hs : PlainIx b) : PE X (.Subscript a b pos) (tD (gx X) W (eBin idxD p q)) :=
  PE.imp (pe_ix (ix_any hu) ha hb hs) fun σ H Q h => tD_two h
/-! ### slices -/
def cutA {α : Type} (xs : List α) (lo hi : Option Int) : List α := (xs.drop (HT.sIx xs.length 0 lo)).take (HT.sIx xs.length xs.length hi - HT.sIx xs.length 0 lo)
theorem cutA_all {α : Type} {ds : List α} {lo hi : Option Int} (z1 : HT.sIx ds.length 0 lo = 0) (z2 : HT.sIx ds.length ds.length hi = ds.length) : cutA ds lo hi = ds := by
  unfold cutA
  rw [z1, z2]
  simp
theorem RepA.cut {K : PySem.W.Frag} {H : Hp} {F : FA} {vs : List V} {ds : List D} (r : RepA K H F vs ds) (lo hi : Option Int) : RepA K H F (cutV vs lo hi) (cutA ds lo hi) := by
  unfold cutV cutA
  rw [r.length]
  exact (r.drop _).take _
def slD (lo hi : Option Int) : D → Option D
  | .list ds => some (.list (cutA ds lo hi))
  | .tuple ds => some (.tuple (cutA ds lo hi))
  | .str z => if z.length ≤ sizeLine then some (.str (cutS z lo hi)) else none
  | _ => none
theorem sl_any : SlR X (fun x lo hi H Q => ∃ F d1 d, Rep X.K H F x d1 ∧ slD lo hi d1 = some d ∧ Gv X.K H F d Q) := by
  intro pins s σ H x v vl vu lo hi sl Q I rx hs pl pu h
  obtain ⟨F, d1, d, r1, e, g⟩ := h
  unfold slD at e
  split at e
  · cases e
    cases r1 with
    | lst f q => exact sl_list pins s σ H _ v vl vu lo hi sl Q I rx hs pl pu ⟨_, _, rfl, f.sq, g.lst (q.cut lo hi)⟩
  · cases e
    cases r1 with
    | tup f q =>
      refine sl_tupA pins s σ H _ v vl vu lo hi sl Q I rx hs pl pu ⟨_, _, rfl, f.sq, fun ⟨z1, z2⟩ => g.same ?_, fun _ => g.tup (q.cut lo hi)⟩
      rw [cutA_all (by rw [← q.length]; exact z1) (by rw [← q.length]; exact z2)]
      exact .tup f q
  · split at e
    · rename_i hz
      cases e
      cases r1
      exact sl_str pins s σ H _ v vl vu lo hi sl Q I rx hs pl pu ⟨_, rfl, hz, g.str⟩
    · cases e
  · cases e
def tPt (G : Gx) (W : WX) (f : En → Rs (Option Int)) : TO := fun σ H Q => ∃ env F fp, Sta G.K H F σ env fp ∧ Out G W σ fp H F (f env) fun d _ H' _ _ => Q d H'
theorem PO.imp {o : Option Expr} {t t' : TO} (h : PO X o t) (k : ∀ σ H Q, t' σ H Q → t σ H Q) : PO X o t' := ⟨fun pins s σ H Q I w => h.run pins s σ H Q I (k σ H Q w)⟩
def ixI : D → Option (Option Int)
  | .int i => some (some i)
  | _ => none
def ePart (f : En → Rs D) : En → Rs (Option Int) := fun env₀ => (bnd f fun d => lift (ixI d)) env₀
theorem pod_none : PO X none (tPt (gx X) W (ret none)) := PO.imp po_none fun σ H Q ⟨env, F, fp, st, h⟩ => h H F fp .refl st
theorem pod_some (h : PE X e (tD (gx X) W f)) : PO X (some e) (tPt (gx X) W (ePart f)) := PO.imp (po_some h) fun σ H Q ⟨env, F, fp, st, h⟩ => by
  refine ⟨env, F, fp, st, Out.mono h.bind fun d env1 H1 F1 fp1 t1 s1 h1 v r => ?_⟩
  obtain ⟨o, e, h2⟩ := h1.lift
  unfold ixI at e
  split at e
  · cases e; cases r; exact ⟨_, rfl, h2 H1 F1 fp1 .refl s1⟩
  · cases e
def eSl (f : En → Rs D) (l u : En → Rs (Option Int)) : En → Rs D := fun env₀ => (bnd f fun d => bnd l fun lo => bnd u fun hi => lift (slD lo hi d)) env₀
theorem pd_sl {lo hi : Option Expr} {l u : En → Rs (Option Int)} {p2 : Pos} (he : PE X e (tD (gx X) W f)) (hl : PO X lo (tPt (gx X) W l)) (hh : PO X hi (tPt (gx X) W u)) : PE X (.Subscript e (.Slice lo hi none p2) pos) (tD (gx X) W (eSl f l u)) :=
  PE.imp (pe_slice sl_any he hl hh) fun σ H Q ⟨env, F, fp, st, h⟩ => by
    refine ⟨env, F, fp, st, Out.mono h.bind fun d env1 H1 F1 fp1 t1 s1 h1 v r => ?_⟩
    refine ⟨env1, F1, fp1, s1, Out.mono h1.bind fun lo env2 H2 F2 fp2 t2 s2 h2 => ?_⟩
    refine ⟨env2, F2, fp2, s2, Out.mono h2.bind fun hi env3 H3 F3 fp3 t3 s3 h3 => ?_⟩
    obtain ⟨z, ez, h4⟩ := h3.lift
    exact ⟨F3, d, z, (r.tr s1.re t2).tr s2.re t3, ez, fun v H' F' n r => h4 H' F' fp3 n.tr (n.sta s3) v r⟩
/-- xs[::-1] -/
def revD : D → Option D
  | .list ds => some (.list ds.reverse)
  | _ => none
theorem RepA.reverse {K : PySem.W.Frag} {H : Hp} {F : FA} : ∀ {vs : List V} {ds : List D}, RepA K H F vs ds → RepA K H F vs.reverse ds.reverse
  | _, _, .nil => .nil
  | _, _, .cons h t => by
    rw [List.reverse_cons, List.reverse_cons]
    exact (RepA.reverse t).append (.cons h .nil)
theorem pd_rev {k : Nat} {p1 p2 p3 : Pos} (he : PE X e (tD (gx X) W f)) : PE X (.Subscript e (.Slice none none (some (.UnaryOp .USub (.Constant (.int 1) k p1) p2)) p3) pos) (tD (gx X) W (eUn revD f)) := PE.imp (pe_revL he) fun σ H Q h => by
  refine tD_imp (tD_un h) fun v H1 ⟨F1, d1, d, r, ed, g⟩ => ?_
  unfold revD at ed
  split at ed
  · cases ed
    cases r with
    | lst f q => exact ⟨_, _, rfl, f.sq, g.lst q.reverse⟩
  · cases ed
/-! ### text methods -/
def strD : D → Option Str
  | .str x => some x
  | _ => none
def eM1 (op : Str → D → Option D) (f g : En → Rs D) : En → Rs D := fun env₀ => (bnd f fun a => bnd (lift (strD a)) fun x => bnd g fun b => lift (op x b)) env₀
theorem pd_m1 {id : String} {name : Str} {apos : Pos} {o : Expr} {op : Str → D → Option D} {p : En → Rs D} (slot : Slot "str" name id) (ty : typeOf (.builtin id) = pure (.type "method_descriptor"))
    (rule : MtR X id (fun x xs H Q => ∃ F a y b d, x = .str a ∧ xs = [y] ∧ Rep X.K H F y b ∧ op a b = some d ∧ Gv X.K H F d Q)) (ho : PE X o (tD (gx X) W p)) (he : PE X e (tD (gx X) W f))
    (hs : starEach [e] X.env = [(false, eval e X.env)] := by rfl) (hbase : attributeBase o name X.env (eval o X.env) = eval o X.env := by rfl) (hline : (apos.endLine == pos.line) = true := by rfl) :
    PE X (.Call (.Attribute o name apos) [e] [] pos) (tD (gx X) W (eM1 op p f)) := PE.imp (pe_m1 slot ty rule ho he hs hbase hline) fun σ H Q ⟨env, F, fp, st, h⟩ => by
  refine ⟨env, F, fp, st, Out.mono h.bind fun a env1 H1 F1 fp1 t1 s1 h1 v r => ?_⟩
  obtain ⟨x, ex, h2⟩ := h1.bind.lift
  unfold strD at ex
  split at ex
  · cases ex
    cases r
    refine ⟨⟨_, rfl⟩, env1, F1, fp1, s1, Out.mono (h2 H1 F1 fp1 .refl s1).bind fun b env3 H3 F3 fp3 t3 s3 h3 y ry => ?_⟩
    obtain ⟨d, ed, h4⟩ := h3.lift
    exact ⟨F3, _, y, b, d, rfl, rfl, ry, ed, fun v H' F' n r => h4 H' F' fp3 n.tr (n.sta s3) v r⟩
  · cases ex
def strsD : List D → Option (List Str)
  | [] => some []
  | .str x :: r => (strsD r).map (x :: ·)
  | _ :: _ => none
theorem RepA.strs {K : PySem.W.Frag} {H : Hp} {F : FA} : ∀ {vs : List V} {ds : List D} {ys : List Str}, RepA K H F vs ds → strsD ds = some ys → vs = ys.map V.str
  | _, _, _, .nil, e => by cases e; rfl
  | _, _, _, .cons h t, e => by
    unfold strsD at e
    split at e
    · rename_i q; cases q
    · rename_i q
      cases q
      obtain ⟨zs, e1, rfl⟩ := Option.map_eq_some_iff.mp e
      cases h
      rw [RepA.strs t e1]; rfl
    · cases e
def joinD (a : Str) : D → Option D
  | .list ds => (strsD ds).bind fun ys => if (ys.map (·.length)).sum + ys.length * a.length ≤ 16777216 then some (.str (Txt.join a ys)) else none
  | .tuple ds => (strsD ds).bind fun ys => if (ys.map (·.length)).sum + ys.length * a.length ≤ 16777216 then some (.str (Txt.join a ys)) else none
  | _ => none
theorem md_join : MtR X "str.join" (fun x xs H Q => ∃ F a y b d, x = .str a ∧ xs = [y] ∧ Rep X.K H F y b ∧ joinD a b = some d ∧ Gv X.K H F d Q) := by
  intro pins s σ H x xs v us Q I rx rs h
  obtain ⟨F, a, y, b, d, rfl, rfl, r, e, g⟩ := h
  unfold joinD at e
  split at e
  · obtain ⟨ys, e1, e2⟩ := Option.bind_eq_some_iff.mp e
    split at e2
    · rename_i hz
      cases e2
      cases r with
      | lst f q => cases q.strs e1; exact mt_join pins s σ H _ _ v us Q I rx rs ⟨_, _, ys, rfl, rfl, .inl f.sq, hz, g.str⟩
    · cases e2
  · obtain ⟨ys, e1, e2⟩ := Option.bind_eq_some_iff.mp e
    split at e2
    · rename_i hz
      cases e2
      cases r with
      | tup f q => cases q.strs e1; exact mt_join pins s σ H _ _ v us Q I rx rs ⟨_, _, ys, rfl, rfl, .inr f.sq, hz, g.str⟩
    · cases e2
  · cases e
end
end VH
set_option Elab.async false
set_option linter.all false
set_option maxRecDepth 100000
set_option maxHeartbeats 4000000
namespace VH
open PySem PySem.Spec PyProof.Rows L2

/-! ### owned values -/
def Dj (f g : List Addr) : Prop := ∀ a ∈ f, a ∉ g
def OutO (G : Gx) (W : WX) (σ : Sg) (fp : List Addr) (H : Hp) (F : FA) (r : Rs O) (P : O → En → Hp → FA → List Addr → V → List Addr → Prop) : Prop := match r with
  | .ok o env => ∀ H' F' fp' v fr, Tr fp H F H' F' (fr ++ fp') → Sta G.K H' F' σ env fp' → RO G.K H' F' v o fr → Dj fr fp' → P o env H' F' fp' v fr
  | .exc x env => ∀ H' F' fp' c o, Tr fp H F H' F' fp' → Sta G.K H' F' σ env fp' → RX G H' F' c o x → W c o σ H'
  | .bad => False
def tO (G : Gx) (W : WX) (f : En → Rs O) : TE := fun σ H Q => ∃ env F fp, Sta G.K H F σ env fp ∧ OutO G W σ fp H F (f env) fun _ _ H' _ _ v _ => Q v H'
section
variable {G : Gx} {W : WX} {σ : Sg} {fp : List Addr} {H : Hp} {F : FA}
theorem OutO.mono {r : Rs O} {P P' : O → En → Hp → FA → List Addr → V → List Addr → Prop} (h : OutO G W σ fp H F r P)
    (k : ∀ o env H' F' fp' v fr, Tr fp H F H' F' (fr ++ fp') → Sta G.K H' F' σ env fp' → RO G.K H' F' v o fr → Dj fr fp' → P o env H' F' fp' v fr → P' o env H' F' fp' v fr) : OutO G W σ fp H F r P' := by
  cases r with
  | ok a env => exact fun H' F' fp' v fr t s q d => k a env H' F' fp' v fr t s q d (h H' F' fp' v fr t s q d)
  | exc x env => exact h
  | bad => exact h
/-- behind plain work an owned value -/
theorem OutO.bind {α : Type} {f : En → Rs α} {g : α → En → Rs O} {env : En} {P : O → En → Hp → FA → List Addr → V → List Addr → Prop} (h : OutO G W σ fp H F (bnd f g env) P) :
    Out G W σ fp H F (f env) fun a env1 H1 F1 fp1 => OutO G W σ fp1 H1 F1 (g a env1) P := by
  unfold bnd at h
  cases e : f env with
  | ok a env1 =>
    rw [e] at h
    intro H1 F1 fp1 t1 s1
    replace h : OutO G W σ fp H F (g a env1) P := h
    cases e2 : g a env1 with
    | ok b env2 =>
      rw [e2] at h
      exact fun H2 F2 fp2 v fr t2 s2 => h H2 F2 fp2 v fr (t1.trans t2) s2
    | exc x env2 =>
      rw [e2] at h
      exact fun H2 F2 fp2 c o t2 s2 rx => h H2 F2 fp2 c o (t1.trans t2) s2 rx
    | bad => rw [e2] at h; exact h
  | exc x env1 => rw [e] at h; exact h
  | bad => rw [e] at h; exact h
/-- behind an owned value more work; the value stays beside -/
theorem Out.bindO {β : Type} {f : En → Rs O} {g : O → En → Rs β} {env : En} {P : β → En → Hp → FA → List Addr → Prop} (h : Out G W σ fp H F (bnd f g env) P) :
    OutO G W σ fp H F (f env) fun a env1 H1 F1 fp1 v fr => Out G W σ (fr ++ fp1) H1 F1 (g a env1) P := by
  unfold bnd at h
  cases e : f env with
  | ok a env1 =>
    rw [e] at h
    intro H1 F1 fp1 v fr t1 s1 r d
    replace h : Out G W σ fp H F (g a env1) P := h
    cases e2 : g a env1 with
    | ok b env2 =>
      rw [e2] at h
      exact fun H2 F2 fp2 t2 s2 => h H2 F2 fp2 (t1.trans t2) s2
    | exc x env2 =>
      rw [e2] at h
      exact fun H2 F2 fp2 c o t2 s2 rx => h H2 F2 fp2 c o (t1.trans t2) s2 rx
    | bad => rw [e2] at h; exact h
  | exc x env1 => rw [e] at h; exact h
  | bad => rw [e] at h; exact h
theorem Tr.more {fp fp' g : List Addr} {H H' : Hp} {F F' : FA} (t : Tr fp H F H' F' fp') : Tr (g ++ fp) H F H' F' fp' :=
  ⟨fun a u e n => t.keep a u e fun q => n (List.mem_append_right _ q), t.froz, fun a q => (t.new a q).imp (List.mem_append_right _) id⟩
theorem Tr.moreR {fp fp' g : List Addr} {H H' : Hp} {F F' : FA} (t : Tr fp H F H' F' fp') : Tr (g ++ fp) H F H' F' (g ++ fp') :=
  ⟨fun a u e n => t.keep a u e fun q => n (List.mem_append_right _ q), t.froz, fun a q => (List.mem_append.mp q).elim (fun q => .inl (List.mem_append_left _ q)) fun q => (t.new a q).imp (List.mem_append_right _) id⟩
theorem Tr.less {fp fp' g : List Addr} {H H' : Hp} {F F' : FA} (t : Tr fp H F H' F' fp') (h : ∀ a ∈ g, a ∈ fp') : Tr fp H F H' F' g := ⟨t.keep, t.froz, fun a q => t.new a (h a q)⟩
theorem Fo.frz {fr : List Addr} (h : Fo H F) (k : ∀ a ∈ fr, ∃ u, H a = some u) : Fo H (fun a => F a ∨ a ∈ fr) := fun a q => q.elim (h a) (k a)
/-- an owned value beside the environment is frozen -/
theorem frz_beside {K : PySem.W.Frag} {env : En} {v : V} {o : O} {fr : List Addr} (st : Sta K H F σ env fp) (r : RO K H F v o fr) (d : Dj fr fp) (hb : o.fzb = true) :
    Tr (fr ++ fp) H F H (fun a => F a ∨ a ∈ fr) fp ∧ Sta K H (fun a => F a ∨ a ∈ fr) σ env fp ∧ Rep K H (fun a => F a ∨ a ∈ fr) v (fz o) := by
  have hF : ∀ a, F a → (F a ∨ a ∈ fr) := fun a q => .inl q
  refine ⟨⟨fun a u e n => ⟨e, fun q => q.elim id fun q => absurd (List.mem_append_left _ q) n⟩, hF, fun a q => .inl (List.mem_append_right _ q)⟩, ⟨?_, st.fo.frz fun a q => (r.trk a q).1⟩, r.freeze hF (fun a q => .inr q) hb⟩
  exact st.re.mono ⟨fun _ _ _ h _ _ => h, fun _ _ _ _ h => h, hF⟩ fun a q => ⟨rfl, fun z => z.elim id fun z => absurd q (d a z)⟩
end
def eSh (f : En → Rs D) : En → Rs O := fun env₀ => (bnd f fun d => ret (.sh d)) env₀
def eFz (f : En → Rs O) : En → Rs D := fun env₀ => (bnd f fun o env => if o.fzb = true then .ok (fz o) env else .bad) env₀
section
variable {X : Cx} {W : WX} {e : Expr}
theorem po_sh {f : En → Rs D} (h : PE X e (tD (gx X) W f)) : PE X e (tO (gx X) W (eSh f)) := PE.imp h fun σ H Q ⟨env, F, fp, st, h⟩ =>
  ⟨env, F, fp, st, Out.mono h.bind fun d env1 H1 F1 fp1 t1 s1 h1 v r => h1 H1 F1 fp1 v [] Tr.refl s1 (.sh r) fun _ q => nomatch q⟩
theorem pd_fz {f : En → Rs O} (h : PE X e (tO (gx X) W f)) : PE X e (tD (gx X) W (eFz f)) := PE.imp h fun σ H Q ⟨env, F, fp, st, h⟩ => by
  refine ⟨env, F, fp, st, OutO.mono h.bindO fun o env1 H1 F1 fp1 v fr t1 s1 r d h1 => ?_⟩
  split at h1
  · rename_i hb
    obtain ⟨z1, z2, z3⟩ := frz_beside s1 r d hb
    exact h1 H1 _ fp1 z1 z2 v z3
  · exact h1.elim
/-- a slot's own thing goes -/
def eMov (i : Nat) : En → Rs O := fun env => match env[i]? with
  | some (some o) => .ok o (env.set i none)
  | _ => .bad
theorem pv_of {i : Nat} {σ : Sg} {env : En} {K : PySem.W.Frag} {H : Hp} {F : FA} {fp : List Addr} {o : O} (st : REnv K H F σ env fp) (h : env[i]? = some (some o)) :
    ∃ v f1 fr, σ[i]? = some (some v) ∧ RO K H F v o f1 ∧ (∀ a, a ∈ fp ↔ a ∈ f1 ∨ a ∈ fr) ∧ Dj f1 fr ∧
      ∀ (H' : Hp) (F' : FA) (v' : Option V) (o' : Option O) (f1' : List Addr), Stb H F H' F' → Sm fr H F H' F' → RS K H' F' v' o' f1' → Dj f1' fr →
        ∃ fp', REnv K H' F' (σ.set i v') (env.set i o') fp' ∧ ∀ a, a ∈ fp' ↔ a ∈ f1' ∨ a ∈ fr := by
  have hi : i < env.length := (List.getElem?_eq_some_iff.mp h).1
  obtain ⟨v, o', f1, fr, e1, e2, rs, hm, hd, hk⟩ := st.split i hi
  rw [h] at e2
  cases e2
  cases rs with
  | yes r => exact ⟨_, f1, fr, e1, r, hm, hd, hk⟩
/-- the slot stays, its thing is taken out -/
theorem take_slot {i : Nat} {σ : Sg} {env : En} {K : PySem.W.Frag} {H : Hp} {F : FA} {fp : List Addr} {o : O} (st : REnv K H F σ env fp) (h : env[i]? = some (some o)) :
    ∃ v f1 fp', σ[i]? = some (some v) ∧ RO K H F v o f1 ∧ REnv K H F σ (env.set i none) fp' ∧ (∀ a, a ∈ fp ↔ a ∈ f1 ∨ a ∈ fp') ∧ Dj f1 fp' := by
  obtain ⟨v, f1, fr, e1, r, hm, hd, hk⟩ := pv_of st h
  obtain ⟨fp', re, hm'⟩ := hk H F (some v) none [] .refl (fun _ _ => ⟨rfl, id⟩) .no (fun _ q => nomatch q)
  rw [set_get e1] at re
  have hm2 : ∀ a, a ∈ fp' ↔ a ∈ fr := fun a => by rw [hm' a]; simp
  exact ⟨v, f1, fp', e1, r, re, fun a => by rw [hm a, hm2 a], fun a q z => hd a q ((hm2 a).mp z)⟩
/-- a thing is put into a slot -/
theorem put_slot {i : Nat} {σ : Sg} {env : En} {K : PySem.W.Frag} {H : Hp} {F : FA} {fp fr : List Addr} {v : V} {o : O} (st : REnv K H F σ env fp) (hi : i < env.length) (r : RO K H F v o fr) (d : Dj fr fp) :
    ∃ fp', REnv K H F (σ.set i (some v)) (env.set i (some o)) fp' ∧ ∀ a ∈ fp', a ∈ fr ++ fp := by
  obtain ⟨v0, o0, f1, f2, e1, e2, rs, hm, hd, hk⟩ := st.split i hi
  obtain ⟨fp', re, hm'⟩ := hk H F (some v) (some o) fr .refl (fun _ _ => ⟨rfl, id⟩) (.yes r) fun a q z => d a q ((hm a).mpr (.inr z))
  exact ⟨fp', re, fun a q => ((hm' a).mp q).elim (fun q => List.mem_append_left _ q) fun q => List.mem_append_right _ ((hm a).mpr (.inr q))⟩
theorem po_mov (i : Nat) {x : Str} {pos : Pos} (hN : X.N[i]? = some x := by rfl) (hv : Vis X.env.scope x := by first | exact Or.inl rfl | exact Or.inr (Or.inl rfl) | exact Or.inr (Or.inr rfl)) (hd : (x == ("__debug__" : Str)) = false := by decide)
    (hcd : (x == ("__classdict__" : Str)) = false := by decide) : PE X (.Name x pos) (tO (gx X) W (eMov i)) := by
  refine PE.imp (pe_var hN hv hd hcd) fun σ H Q ⟨env, F, fp, st, h⟩ => ?_
  unfold eMov at h
  split at h
  · rename_i o he
    obtain ⟨v, f1, fp', e1, r, re, hm, hd⟩ := take_slot st.re he
    exact ⟨v, e1, h H F fp' v f1 (Tr.refl.less fun a q => (hm a).mpr ((List.mem_append.mp q).imp id id)) ⟨re, st.fo⟩ r hd⟩
  · exact h.elim
/-! ### new owned things -/
theorem own_new {K : PySem.W.Frag} {H : Hp} {F : FA} {σ : Sg} {env : En} {fp : List Addr} {p : Addr} {ob : HO} (st : Sta K H F σ env fp) (np : H p = none) :
    Tr fp H F (upd H p ob) F ([p] ++ fp) ∧ Sta K (upd H p ob) F σ env fp ∧ ¬ F p ∧ Dj [p] fp ∧ Stb H F (upd H p ob) F := by
  have nF : ¬ F p := fun q => by
    obtain ⟨u, e⟩ := st.fo p q
    rw [np] at e; cases e
  have hk : ∀ a u, H a = some u → (upd H p ob) a = some u := fun a u e => by rw [upd_ne (ne_of_none e np)]; exact e
  have sb : Stb H F (upd H p ob) F := ⟨fun a u _ e _ _ => hk a u e, fun a u _ _ e => e.imp (hk a _) fun ⟨o, z⟩ => ⟨o, hk a _ z⟩, fun _ h => h⟩
  refine ⟨⟨fun a u e _ => ⟨hk a u e, id⟩, fun _ h => h, fun a q => ?_⟩, ⟨st.re.mono sb fun a q => ?_, fun a q => ?_⟩, nF, fun a q z => ?_, sb⟩
  · rcases List.mem_append.mp q with q | q
    · rw [List.mem_singleton.mp q]; exact .inr np
    · exact .inl q
  · obtain ⟨⟨u, e⟩, f⟩ := st.re.trk a q
    exact ⟨by rw [upd_ne (ne_of_none e np)], id⟩
  · obtain ⟨u, e⟩ := st.fo a q
    exact ⟨u, hk a u e⟩
  · rw [List.mem_singleton.mp q] at z
    obtain ⟨⟨u, e⟩, _⟩ := st.re.trk p z
    rw [np] at e; cases e
theorem own_new_kp {H : Hp} {F : FA} {p : Addr} {ob : HO} (np : H p = none) : Kp H F (upd H p ob) F := ⟨fun a u _ e => by rw [upd_ne (ne_of_none e np)]; exact e, fun _ h => h⟩
def oLst (g : En → Rs (List D)) : En → Rs O := fun env₀ => (bnd g fun ds env => if ds.length ≤ 1000 then .ok (.lst ds) env else .bad) env₀
theorem po_lst {es : List Expr} {g : En → Rs (List D)} {pos : Pos} (h : PA X es (tAs (gx X) W g)) : PE X (.List es pos) (tO (gx X) W (oLst g)) := PE.imp (pe_lst h) fun σ H Q ⟨env, F, fp, st, h⟩ => by
  refine ⟨env, F, fp, st, Out.mono (OutO.bind h) fun ds env1 H1 F1 fp1 t1 s1 h1 vs rs => ?_⟩
  split at h1
  · rename_i hl
    refine ⟨by rw [rs.length]; exact le_line hl, fun p np => ?_⟩
    obtain ⟨z1, z2, z3, z4, z5⟩ := own_new (ob := .lst vs) s1 np
    exact h1 _ F1 fp1 (.ref p) [p] z1 z2 (.lst upd_same z3 (rs.mono z5)) z4
  · exact h1.elim
/-- a + b, a new list one's own -/
def oAdd (fa fb : En → Rs D) : En → Rs O := fun env₀ => (bnd fa fun x => bnd fb fun y env => match x, y with
  | .list a, .list b => if a.length + b.length ≤ sizeLine then .ok (.lst (a ++ b)) env else .bad
  | _, _ => .bad) env₀
theorem po_add {a b : Expr} {fa fb : En → Rs D} {pos : Pos} (ha : PE X a (tD (gx X) W fa)) (hb : PE X b (tD (gx X) W fb)) : PE X (.BinOp a .Add b pos) (tO (gx X) W (oAdd fa fb)) := PE.imp (pe_op op_cat ha hb) fun σ H Q ⟨env, F, fp, st, h⟩ => by
  refine ⟨env, F, fp, st, Out.mono (OutO.bind h) fun x env1 H1 F1 fp1 t1 s1 h1 v1 r1 => ?_⟩
  refine ⟨env1, F1, fp1, s1, Out.mono (OutO.bind h1) fun y env2 H2 F2 fp2 t2 s2 h2 v2 r2 => ?_⟩
  have r1 := r1.tr s1.re t2
  split at h2
  · split at h2
    · rename_i hl
      cases r1 with
      | lst f1 q1 => cases r2 with
        | lst f2 q2 =>
          refine ⟨_, _, _, _, rfl, rfl, f1.2, f2.2, by rw [q1.length, q2.length]; exact hl, fun p np => ?_⟩
          obtain ⟨z1, z2, z3, z4, z5⟩ := own_new (ob := .lst _) s2 np
          exact h2 _ F2 fp2 (.ref p) [p] z1 z2 (.lst upd_same z3 ((q1.append q2).mono z5)) z4
    · exact h2.elim
  · exact h2.elim
def oIf (c : En → Rs Bool) (f g : En → Rs O) : En → Rs O := fun env₀ => (bnd c fun b env => if b = true then f env else g env) env₀
theorem po_if {c a b : Expr} {fc : En → Rs Bool} {p q : En → Rs O} {pos : Pos} (hc : PT X c (tT (gx X) W fc)) (ha : PE X a (tO (gx X) W p)) (hb : PE X b (tO (gx X) W q)) : PE X (.IfExp c a b pos) (tO (gx X) W (oIf fc p q)) := PE.imp (pe_ifExp hc ha hb) fun σ H Q ⟨env, F, fp, st, h⟩ => by
  refine ⟨env, F, fp, st, Out.mono (OutO.bind h) fun b env1 H1 F1 fp1 t1 s1 h1 => ?_⟩
  cases b with
  | true => exact iteT ⟨env1, F1, fp1, s1, h1⟩
  | false => exact iteF ⟨env1, F1, fp1, s1, h1⟩
/-- list(x), a new list one's own -/
def oList (f : En → Rs D) : En → Rs O := fun env₀ => (bnd f fun d env => match d with
  | .list a => .ok (.lst a) env
  | .tuple a => .ok (.lst a) env
  | _ => .bad) env₀
theorem po_list {x : Str} {p pos : Pos} {f : En → Rs D} (hg : Gl X x) (hm : X.mg x = none) (hv : bootBuiltins x = some (.type "list")) (ha : PE X e (tD (gx X) W f))
    (hn : x ≠ "__name__" := by decide) (hdb : (x == ("__debug__" : Str)) = false := by decide) (he : starEach [e] X.env = (false, eval e X.env) :: starEach [] X.env := by rfl) :
    PE X (.Call (.Name x p) [e] [] pos) (tO (gx X) W (oList f)) := PE.imp (pe_callTy call_list_of hg hm hv (pa_cons ha pa_nil he) hn hdb he) fun σ H Q ⟨env, F, fp, st, h⟩ => by
  refine ⟨env, F, fp, st, Out.mono (OutO.bind h) fun d env1 H1 F1 fp1 t1 s1 h1 v r => ?_⟩
  split at h1
  · cases r with
    | lst f q =>
      refine ⟨_, _, rfl, .inl f.sq, fun p np => ?_⟩
      obtain ⟨z1, z2, z3, z4, z5⟩ := own_new (ob := .lst _) s1 np
      exact h1 _ F1 fp1 (.ref p) [p] z1 z2 (.lst upd_same z3 (q.mono z5)) z4
  · cases r with
    | tup f q =>
      refine ⟨_, _, rfl, .inr f.sq, fun p np => ?_⟩
      obtain ⟨z1, z2, z3, z4, z5⟩ := own_new (ob := .lst _) s1 np
      exact h1 _ F1 fp1 (.ref p) [p] z1 z2 (.lst upd_same z3 (q.mono z5)) z4
  · exact h1.elim
/-! ### dict displays -/
def ePairs : List ((En → Rs D) × (En → Rs D)) → En → Rs (List (D × D))
  | [] => ret []
  | (k, v) :: r => bnd k fun a => bnd v fun b => bnd (ePairs r) fun ps => ret ((a, b) :: ps)
def keysD : List (D × D) → Option (List (Key × D))
  | [] => some []
  | (a, b) :: r => match keyOf a, keysD r with
    | some k, some ks => some ((k, b) :: ks)
    | _, _ => none
def putD (kvs : List (Key × D)) (k : Key) (v : D) : List (Key × D) :=
  if (kvs.any fun kv => decide (kv.1 = k)) = true then kvs.map (fun kv => if kv.1 = k then (kv.1, v) else kv) else kvs ++ [(k, v)]
def mergeD (kvs : List (Key × D)) : List (Key × D) → List (Key × D)
  | [] => kvs
  | p :: r => mergeD (putD kvs p.1 p.2) r
def shK (kvs : List (Key × D)) : List (Key × O) := kvs.map fun p => (p.1, .sh p.2)
def oDic (ps : List ((En → Rs D) × (En → Rs D))) : En → Rs O := fun env₀ => (bnd (ePairs ps) fun l env => match keysD l with
  | some ks => if ks.length ≤ 15 then .ok (.dic (shK (mergeD [] ks))) env else .bad
  | none => .bad) env₀
end
end VH
set_option Elab.async false
set_option linter.all false
set_option maxRecDepth 100000
set_option maxHeartbeats 4000000
namespace VH
open PySem PySem.Spec PyProof.Rows L2

/-! ### dict displays -/
inductive RepP (K : PySem.W.Frag) (H : Hp) (F : FA) : List (V × V) → List (D × D) → Prop
  | nil : RepP K H F [] []
  | cons {x y : V} {a b : D} {vs : List (V × V)} {ds : List (D × D)} : Rep K H F x a → Rep K H F y b → RepP K H F vs ds → RepP K H F ((x, y) :: vs) ((a, b) :: ds)
inductive RK (K : PySem.W.Frag) (H : Hp) (F : FA) : List (Key × V) → List (Key × D) → Prop
  | nil : RK K H F [] []
  | cons {k : Key} {v : V} {d : D} {vs : List (Key × V)} {ds : List (Key × D)} : Rep K H F v d → RK K H F vs ds → RK K H F ((k, v) :: vs) ((k, d) :: ds)
theorem RK.mono {K : PySem.W.Frag} {H H' : Hp} {F F' : FA} (s : Stb H F H' F') : ∀ {v : List (Key × V)} {d : List (Key × D)}, RK K H F v d → RK K H' F' v d
  | _, _, .nil => .nil
  | _, _, .cons h t => .cons (h.mono s) (RK.mono s t)
theorem RepP.keys {K : PySem.W.Frag} {H : Hp} {F : FA} : ∀ {vs : List (V × V)} {ds : List (D × D)} {ks : List (Key × D)}, RepP K H F vs ds → keysD ds = some ks → ∃ kvs : List (Key × V), vs = kvs.map (fun kv => (kV kv.1, kv.2)) ∧ RK K H F kvs ks ∧ kvs.length = ks.length
  | _, _, _, .nil, e => by cases e; exact ⟨[], rfl, .nil, rfl⟩
  | _, _, _, .cons (y := y) hx hy t, e => by
    unfold keysD at e
    split at e
    · rename_i k ks e1 e2
      cases e
      obtain ⟨kvs, rfl, r, l⟩ := RepP.keys t e2
      exact ⟨(k, y) :: kvs, by rw [hx.key e1]; rfl, .cons hy r, by simp [l]⟩
    · cases e
theorem RK.append {K : PySem.W.Frag} {H : Hp} {F : FA} {k : Key} {v : V} {d : D} (r : Rep K H F v d) : ∀ {vs : List (Key × V)} {ds : List (Key × D)}, RK K H F vs ds → RK K H F (vs ++ [(k, v)]) (ds ++ [(k, d)])
  | _, _, .nil => .cons r .nil
  | _, _, .cons h t => .cons h (RK.append r t)
theorem RK.repl {K : PySem.W.Frag} {H : Hp} {F : FA} {k : Key} {v : V} {d : D} (r : Rep K H F v d) : ∀ {vs : List (Key × V)} {ds : List (Key × D)}, RK K H F vs ds →
    RK K H F (vs.map fun kv => if kv.1 = k then (kv.1, v) else kv) (ds.map fun kv => if kv.1 = k then (kv.1, d) else kv)
  | _, _, .nil => .nil
  | _, _, .cons (k := j) h t => by
    rw [List.map_cons, List.map_cons]
    by_cases e : j = k
    · simp only [e, if_true]; exact .cons r (RK.repl r t)
    · simp only [e, if_false]; exact .cons h (RK.repl r t)
theorem RK.any {K : PySem.W.Frag} {H : Hp} {F : FA} {k : Key} : ∀ {vs : List (Key × V)} {ds : List (Key × D)}, RK K H F vs ds → (vs.any fun kv => decide (kv.1 = k)) = ds.any fun kv => decide (kv.1 = k)
  | _, _, .nil => rfl
  | _, _, .cons h t => by rw [List.any_cons, List.any_cons, RK.any t]
theorem RK.put {K : PySem.W.Frag} {H : Hp} {F : FA} {k : Key} {v : V} {d : D} {vs : List (Key × V)} {ds : List (Key × D)} (h : RK K H F vs ds) (r : Rep K H F v d) : RK K H F (putK vs k v) (putD ds k d) := by
  unfold putK putD
  rw [h.any]
  split
  · exact h.repl r
  · exact h.append r
theorem RK.merge {K : PySem.W.Frag} {H : Hp} {F : FA} : ∀ {ms : List (Key × V)} {es : List (Key × D)} {vs : List (Key × V)} {ds : List (Key × D)}, RK K H F ms es → RK K H F vs ds → RK K H F (mergeK vs ms) (mergeD ds es)
  | _, _, _, _, .nil, h => h
  | _, _, _, _, .cons r t, h => show RK K H F (mergeK (putK _ _ _) _) (mergeD (putD _ _ _) _) from RK.merge t (h.put r)
theorem RK.ok {K : PySem.W.Frag} {H : Hp} {F : FA} : ∀ {vs : List (Key × V)} {ds : List (Key × D)}, RK K H F vs ds → ROk K H F vs (shK ds) []
  | _, _, .nil => .nil
  | _, _, .cons r t => .cons (f1 := []) (f2 := []) (.sh r) (RK.ok t) fun _ q => nomatch q
section
variable {X : Cx} {W : WX} {e : Expr}
def trs (X : Cx) (W : WX) : List ((En → Rs D) × (En → Rs D)) → List (TE × TE)
  | [] => []
  | p :: r => (tD (gx X) W p.1, tD (gx X) W p.2) :: trs X W r
theorem tPairs_of {σ : Sg} : ∀ {ps : List ((En → Rs D) × (En → Rs D))} {env : En} {H : Hp} {F : FA} {fp : List Addr} {P : List (D × D) → En → Hp → FA → List Addr → Prop} {Q : List (V × V) → Hp → Prop}, Sta X.K H F σ env fp →
    Out (gx X) W σ fp H F (ePairs ps env) P → (∀ vs ds env' H' F' fp', Tr fp H F H' F' fp' → Sta X.K H' F' σ env' fp' → RepP X.K H' F' vs ds → P ds env' H' F' fp' → Q vs H') → tPairs (trs X W ps) σ H Q
  | [], env, H, F, fp, P, Q, st, h, k => k [] [] env H F fp .refl st .nil (h H F fp .refl st)
  | (fk, fv) :: r, env, H, F, fp, P, Q, st, h, k => by
    refine ⟨env, F, fp, st, Out.mono h.bind fun a env1 H1 F1 fp1 t1 s1 h1 x rx => ?_⟩
    refine ⟨env1, F1, fp1, s1, Out.mono h1.bind fun b env2 H2 F2 fp2 t2 s2 h2 y ry => ?_⟩
    refine tPairs_of (ps := r) s2 h2.bind fun vs ds env3 H3 F3 fp3 t3 s3 rs h3 => ?_
    exact k _ _ env3 H3 F3 fp3 ((t1.trans t2).trans t3) s3 (.cons ((rx.tr s1.re t2).tr s2.re t3) (ry.tr s2.re t3) rs) (h3 H3 F3 fp3 .refl s3)
theorem po_dic {pos : Pos} {keys : List (Option Expr)} {values : List Expr} {ps : List ((En → Rs D) × (En → Rs D))} (h : PPs X pos keys values (trs X W ps)) (hall : keys.all (·.isSome) = true := by rfl) (hl : keys.length = values.length := by rfl) (h0 : keys ≠ [] := by intro z; cases z)
    (h15 : keys.length ≤ 15 := by decide) : PE X (.Dict keys values pos) (tO (gx X) W (oDic ps)) := PE.imp (pe_disp h hall hl h0 h15) fun σ H Q ⟨env, F, fp, st, h⟩ => by
  intro p np
  obtain ⟨z1, z2, z3, z4, z5⟩ := own_new (ob := .dK []) st np
  -- the work beside the new dict
  unfold oDic bnd at h
  cases e : ePairs ps env with
  | exc x env' =>
    rw [e] at h
    refine tPairs_of (P := fun _ _ _ _ _ => False) z2 (by rw [e]; exact fun H' F' fp' c o t s rx => h H' F' fp' c o ((z1.less fun a q => List.mem_append_right _ q).trans t) s rx) fun _ _ _ _ _ _ _ _ _ z => z.elim
  | bad => rw [e] at h; exact h.elim
  | ok l env' =>
    rw [e] at h
    dsimp only at h
    cases ek : keysD l with
    | none => rw [ek] at h; exact h.elim
    | some ks =>
      rw [ek] at h
      dsimp only at h
      split at h
      · rename_i h15
        refine tPairs_of (P := fun d e' _ _ _ => d = l ∧ e' = env') z2 (by rw [e]; exact fun H' F' fp' t s => ⟨rfl, rfl⟩) fun vs ds env2 H2 F2 fp2 t2 s2 rp ⟨e1, e2⟩ => ?_
        subst e1 e2
        obtain ⟨kvs, rfl, rk, lk⟩ := rp.keys ek
        have hp0 : (upd H p (.dK [])) p = some (.dK []) := upd_same
        have npf : p ∉ fp := z4 p (List.mem_singleton.mpr rfl)
        obtain ⟨hp2, hF2⟩ := t2.keep p _ hp0 npf
        have nF2 : ¬ F2 p := fun q => z3 (hF2 q)
        have npf2 : p ∉ fp2 := fun q => by
          rcases t2.new p q with z | z
          · exact npf z
          · rw [hp0] at z; cases z
        refine ⟨hp2, kvs, rfl, by rw [lk]; exact h15, ?_⟩
        have hk : ∀ a u, a ≠ p → H2 a = some u → (upd H2 p (.dK (mergeK [] kvs))) a = some u := fun a u n z => by rw [upd_ne n]; exact z
        have sb : Stb H2 F2 (upd H2 p (.dK (mergeK [] kvs))) F2 := ⟨fun a u f z _ _ => hk a u (fun q => nF2 (q ▸ f)) z, fun a u f _ z => z.imp (hk a _ (fun q => nF2 (q ▸ f))) fun ⟨o, z⟩ => ⟨o, hk a _ (fun q => nF2 (q ▸ f)) z⟩, fun _ h => h⟩
        refine h (upd H2 p (.dK (mergeK [] kvs))) F2 fp2 (.ref p) [p] ⟨fun a u z n => ?_, fun a q => t2.froz a q, fun a q => ?_⟩ ⟨s2.re.mono sb fun a q => ⟨upd_ne fun z => npf2 (z ▸ q), id⟩, fun a q => ?_⟩ (.dic (fp := []) upd_same nF2 ((rk.merge .nil).ok.mono sb fun _ q => nomatch q) (by simp)) (fun a q => by rw [List.mem_singleton.mp q]; exact npf2)
        · have na : a ≠ p := fun q => by rw [q, np] at z; cases z
          obtain ⟨e1, f1⟩ := t2.keep a u (by rw [upd_ne na]; exact z) n
          exact ⟨hk a u na e1, f1⟩
        · rcases List.mem_append.mp q with q | q
          · rw [List.mem_singleton.mp q]; exact .inr np
          · rcases t2.new a q with z | z
            · exact .inl z
            · refine .inr ?_
              by_cases ea : a = p
              · rw [ea]; exact np
              · rw [upd_ne ea] at z; exact z
        · obtain ⟨u, z⟩ := s2.fo a q
          exact ⟨u, hk a u (fun w => nF2 (w ▸ q)) z⟩
      · exact h.elim
/-- {} -/
def oDic0 : En → Rs O := fun env₀ => (ret (.dic [])) env₀
theorem po_dic0 {pos : Pos} : PE X (.Dict [] [] pos) (tO (gx X) W oDic0) := PE.imp pe_dnewK fun σ H Q ⟨env, F, fp, st, h⟩ p np => by
  obtain ⟨z1, z2, z3, z4, z5⟩ := own_new (ob := .dK []) st np
  exact h _ F fp (.ref p) [p] z1 z2 (.dic (fp := []) upd_same z3 .nil (by simp)) z4
/-! ### subscripts of a slot's own thing -/
def lookO : List (Key × O) → Key → Option O
  | [], _ => none
  | (a, b) :: r, k => if a = k then some b else lookO r k
def putO (kvs : List (Key × O)) (k : Key) (v : O) : List (Key × O) :=
  if (kvs.any fun kv => decide (kv.1 = k)) = true then kvs.map (fun kv => if kv.1 = k then (kv.1, v) else kv) else kvs ++ [(k, v)]
theorem ROk.look {K : PySem.W.Frag} {H : Hp} {F : FA} {k : Key} {o : O} : ∀ {vs : List (Key × V)} {os : List (Key × O)} {fp : List Addr}, ROk K H F vs os fp → lookO os k = some o → ∃ v f1, valV vs k = some v ∧ RO K H F v o f1
  | _, _, _, .nil, e => nomatch (show (none : Option O) = some o from e)
  | _, _, _, .cons (k := j) (v := v) h t _, e => by
    unfold lookO at e
    by_cases q : j = k
    · rw [if_pos q] at e
      cases e
      exact ⟨v, _, valV_pos (p := (j, v)) q, h⟩
    · rw [if_neg q] at e
      rw [valV_neg (p := (j, v)) q]
      exact ROk.look t e
theorem ROk.none {K : PySem.W.Frag} {H : Hp} {F : FA} {k : Key} : ∀ {vs : List (Key × V)} {os : List (Key × O)} {fp : List Addr}, ROk K H F vs os fp → lookO os k = none → valV vs k = none
  | _, _, _, .nil, _ => rfl
  | _, _, _, .cons (k := j) (v := v) h t _, e => by
    unfold lookO at e
    by_cases q : j = k
    · rw [if_pos q] at e; cases e
    · rw [if_neg q] at e
      rw [valV_neg (p := (j, v)) q]
      exact ROk.none t e
theorem ROk.any {K : PySem.W.Frag} {H : Hp} {F : FA} {k : Key} : ∀ {vs : List (Key × V)} {ds : List (Key × O)} {fp : List Addr}, ROk K H F vs ds fp → (vs.any fun kv => decide (kv.1 = k)) = ds.any fun kv => decide (kv.1 = k)
  | _, _, _, .nil => rfl
  | _, _, _, .cons h t _ => by rw [List.any_cons, List.any_cons, ROk.any t]
theorem ROk.length {K : PySem.W.Frag} {H : Hp} {F : FA} : ∀ {vs : List (Key × V)} {ds : List (Key × O)} {fp : List Addr}, ROk K H F vs ds fp → vs.length = ds.length
  | _, _, _, .nil => rfl
  | _, _, _, .cons h t _ => by rw [List.length_cons, List.length_cons, ROk.length t]
theorem ROk.snoc {K : PySem.W.Frag} {H : Hp} {F : FA} {k : Key} {v : V} {o : O} {fr : List Addr} (r : RO K H F v o fr) : ∀ {vs : List (Key × V)} {ds : List (Key × O)} {fp : List Addr}, ROk K H F vs ds fp → Dj fr fp → ∃ fp', ROk K H F (vs ++ [(k, v)]) (ds ++ [(k, o)]) fp' ∧ ∀ a, a ∈ fp' ↔ a ∈ fr ∨ a ∈ fp
  | _, _, _, .nil, _ => ⟨fr ++ [], .cons r .nil (fun _ _ q => nomatch q), fun a => by simp⟩
  | _, _, _, .cons (f1 := f1) (f2 := f2) h t d, dj => by
    obtain ⟨fp', q, hm⟩ := ROk.snoc (k := k) r t fun a z z' => dj a z (List.mem_append_right _ z')
    refine ⟨f1 ++ fp', .cons h q fun a z z' => ?_, fun a => ?_⟩
    · rcases (hm a).mp z' with z' | z'
      · exact dj a z' (List.mem_append_left _ z)
      · exact d a z z'
    · rw [List.mem_append, List.mem_append, hm]
      constructor
      · rintro (q | q | q)
        · exact .inr (.inl q)
        · exact .inl q
        · exact .inr (.inr q)
      · rintro (q | q | q)
        · exact .inr (.inl q)
        · exact .inl q
        · exact .inr (.inr q)
theorem ROk.repl {K : PySem.W.Frag} {H : Hp} {F : FA} {k : Key} {v : V} {d : D} (r : Rep K H F v d) : ∀ {vs : List (Key × V)} {ds : List (Key × O)} {fp : List Addr}, ROk K H F vs ds fp →
    ∃ fp', ROk K H F (vs.map fun kv => if kv.1 = k then (kv.1, v) else kv) (ds.map fun kv => if kv.1 = k then (kv.1, .sh d) else kv) fp' ∧ ∀ a ∈ fp', a ∈ fp
  | _, _, _, .nil => ⟨[], .nil, fun _ q => q⟩
  | _, _, _, .cons (k := j) (f1 := f1) (f2 := f2) h t dj => by
    obtain ⟨fp', q, hm⟩ := ROk.repl (k := k) r t
    rw [List.map_cons, List.map_cons]
    by_cases e : j = k
    · simp only [e, if_true]
      exact ⟨[] ++ fp', .cons (f1 := []) (.sh r) q (fun _ q => nomatch q), fun a z => List.mem_append_right _ (hm a (by simpa using z))⟩
    · simp only [e, if_false]
      exact ⟨f1 ++ fp', .cons h q fun a z z' => dj a z (hm a z'), fun a z => (List.mem_append.mp z).elim (fun z => List.mem_append_left _ z) fun z => List.mem_append_right _ (hm a z)⟩
/-- x[k] -/
def eSub (i : Nat) (fk : En → Rs D) : En → Rs D := fun env => match env[i]? with
  | some (some (.sh d)) => bnd fk (fun k => lift (idxD d k)) env
  | some (some (.dic _)) => bnd fk (fun k env => match env[i]? with
    | some (some (.dic kvs)) => match (keyOf k).bind (lookO kvs) with
      | some (.sh d) => .ok d env
      | _ => .bad
    | _ => .bad) env
  | some (some (.lst _)) => bnd fk (fun k env => match env[i]?, k with
    | some (some (.lst ds)), .int j => match atI ds j with
      | some d => .ok d env
      | none => .bad
    | _, _ => .bad) env
  | _ => .bad
theorem pd_sub (hu : X.A.units + 1 < cLine) (i : Nat) {x : Str} {p pos : Pos} {b : Expr} {fk : En → Rs D} (hb : PE X b (tD (gx X) W fk)) (hs : PlainIx b) (hN : X.N[i]? = some x := by rfl) (hv : Vis X.env.scope x := by first | exact Or.inl rfl | exact Or.inr (Or.inl rfl) | exact Or.inr (Or.inr rfl)) (hd : (x == ("__debug__" : Str)) = false := by decide)
    (hcd : (x == ("__classdict__" : Str)) = false := by decide) : PE X (.Subscript (.Name x p) b pos) (tD (gx X) W (eSub i fk)) :=
  PE.imp (pe_ix ((ix_any hu).or (ix_list.or (ix_dict hu))) (pe_var hN hv hd hcd) hb hs) fun σ H Q ⟨env, F, fp, st, h⟩ => by
    unfold eSub at h
    split at h
    · rename_i d he
      obtain ⟨v, f1, fr, e1, r, hm, hd, hk⟩ := pv_of st.re he
      refine ⟨v, e1, env, F, fp, st, Out.mono h.bind fun k env1 H1 F1 fp1 t1 s1 h1 u ru => ?_⟩
      obtain ⟨z, ez, h2⟩ := h1.lift
      cases r with
      | sh r => exact .inl ⟨F1, d, k, z, r.tr st.re t1, ru, ez, fun v H' F' n r => h2 H' F' fp1 n.tr (n.sta s1) v r⟩
    · rename_i kvs0 he
      obtain ⟨v, f1, fr, e1, r, hm, hd, hk⟩ := pv_of st.re he
      refine ⟨v, e1, env, F, fp, st, Out.mono h.bind fun k env1 H1 F1 fp1 t1 s1 h1 u ru => ?_⟩
      split at h1
      · rename_i kvs he1
        obtain ⟨v', f1', fr', e1', r', hm', hd', hk'⟩ := pv_of s1.re he1
        rw [e1] at e1'
        cases e1'
        split at h1
        · rename_i d ed
          obtain ⟨key, ek, el⟩ := Option.bind_eq_some_iff.mp ed
          cases r' with
          | dic ha hf q hn =>
            obtain ⟨w', g1, ew, rw'⟩ := q.look el
            cases rw' with
            | sh rw' => exact .inr (.inr ⟨_, w', rfl, .inl ⟨_, key, .inl ha, ru.key ek, ew.symm⟩, h1 H1 F1 fp1 .refl s1 _ rw'⟩)
        · exact h1.elim
      · exact h1.elim
    · rename_i ds0 he
      obtain ⟨v, f1, fr, e1, r, hm, hd, hk⟩ := pv_of st.re he
      refine ⟨v, e1, env, F, fp, st, Out.mono h.bind fun k env1 H1 F1 fp1 t1 s1 h1 u ru => ?_⟩
      split at h1
      · rename_i ds j he1
        obtain ⟨v', f1', fr', e1', r', hm', hd', hk'⟩ := pv_of s1.re he1
        rw [e1] at e1'
        cases e1'
        split at h1
        · rename_i d ed
          cases r' with
          | lst ha hf q =>
            obtain ⟨w', ew, rw'⟩ := q.at ed
            cases ru
            exact .inr (.inl ⟨_, _, _, w', rfl, rfl, .inl (.inl ha), ew, h1 H1 F1 fp1 .refl s1 _ rw'⟩)
        · exact h1.elim
      · exact h1.elim
    · exact h.elim
end
end VH
set_option Elab.async false
set_option linter.all false
set_option maxRecDepth 100000
set_option maxHeartbeats 4000000
namespace VH
open PySem PySem.Spec PyProof.Rows L2

/-! ### statements -/
inductive Fl where
  | nx | brk | cnt | ret (o : O)
/-- the borrowed parameters stand in their slots -/
def Pin (bs : List Bool) (vs : List V) (σ : Sg) : Prop := ∀ (i : Nat) (v : V), bs[i]? = some true → vs[i]? = some v → σ[i]? = some (some v)
structure Bx where
  bs : List Bool
  vs : List V
def OutS (G : Gx) (W : WX) (B : Bx) (fp : List Addr) (H : Hp) (F : FA) (r : Rs Fl) (N : Ends) : Prop := match r with
  | .ok .nx env => ∀ σ' H' F' fp', Pin B.bs B.vs σ' → Tr fp H F H' F' fp' → Sta G.K H' F' σ' env fp' → N.nx σ' H'
  | .ok .brk env => ∀ σ' H' F' fp', Pin B.bs B.vs σ' → Tr fp H F H' F' fp' → Sta G.K H' F' σ' env fp' → N.bk σ' H'
  | .ok .cnt env => ∀ σ' H' F' fp', Pin B.bs B.vs σ' → Tr fp H F H' F' fp' → Sta G.K H' F' σ' env fp' → N.ct σ' H'
  | .ok (.ret o) env => ∀ σ' H' F' fp' v fr, Pin B.bs B.vs σ' → Tr fp H F H' F' (fr ++ fp') → Sta G.K H' F' σ' env fp' → RO G.K H' F' v o fr → Dj fr fp' → N.rt v H'
  | .exc x env => ∀ σ' H' F' fp' c o, Pin B.bs B.vs σ' → Tr fp H F H' F' fp' → Sta G.K H' F' σ' env fp' → RX G H' F' c o x → W c o σ' H'
  | .bad => False
def tS (G : Gx) (W : WX) (B : Bx) (f : En → Rs Fl) : TS := fun N σ H => Pin B.bs B.vs σ ∧ ∃ env F fp, Sta G.K H F σ env fp ∧ OutS G W B fp H F (f env) N
theorem PS.imp {X : Cx} {st : Stmt} {t t' : TS} (h : PS X st t) (k : ∀ N σ H, t' N σ H → t N σ H) : PS X st t' := ⟨fun pins s σ H N I w => h.run pins s σ H N I (k N σ H w)⟩
theorem PSs.imp {X : Cx} {st : List Stmt} {t t' : TS} (h : PSs X st t) (k : ∀ N σ H, t' N σ H → t N σ H) : PSs X st t' := ⟨fun pins s σ H N I w => h.run pins s σ H N I (k N σ H w)⟩
/-- what follows where nothing else happened -/
def sSeq (f g : En → Rs Fl) : En → Rs Fl := fun env => match f env with
  | .ok .nx e => g e
  | r => r
def sNext : En → Rs Fl := fun env₀ => (ret .nx) env₀
section
variable {G : Gx} {W : WX} {B : Bx} {σ : Sg} {fp : List Addr} {H : Hp} {F : FA}
theorem OutS.later {r : Rs Fl} {N : Ends} {fp1 : List Addr} {H1 : Hp} {F1 : FA} (t : Tr fp H F H1 F1 fp1) (h : OutS G W B fp H F r N) : OutS G W B fp1 H1 F1 r N := by
  cases r with
  | ok fl env =>
    cases fl with
    | nx => exact fun σ' H' F' fp' p t2 s => h σ' H' F' fp' p (t.trans t2) s
    | brk => exact fun σ' H' F' fp' p t2 s => h σ' H' F' fp' p (t.trans t2) s
    | cnt => exact fun σ' H' F' fp' p t2 s => h σ' H' F' fp' p (t.trans t2) s
    | ret o => exact fun σ' H' F' fp' v fr p t2 s => h σ' H' F' fp' v fr p (t.trans t2) s
  | exc x env => exact fun σ' H' F' fp' c o p t2 s rx => h σ' H' F' fp' c o p (t.trans t2) s rx
  | bad => exact h
/-- behind an expression -/
theorem OutS.bind {α : Type} {f : En → Rs α} {g : α → En → Rs Fl} {env : En} {N : Ends} (p : Pin B.bs B.vs σ) (h : OutS G W B fp H F (bnd f g env) N) :
    Out G W σ fp H F (f env) fun a env1 H1 F1 fp1 => OutS G W B fp1 H1 F1 (g a env1) N := by
  unfold bnd at h
  cases e : f env with
  | ok a env1 =>
    rw [e] at h
    exact fun H1 F1 fp1 t1 s1 => OutS.later t1 h
  | exc x env1 =>
    rw [e] at h
    exact fun H' F' fp' c o t s rx => h σ H' F' fp' c o p t s rx
  | bad => rw [e] at h; exact h
theorem OutS.bindO {f : En → Rs O} {g : O → En → Rs Fl} {env : En} {N : Ends} (p : Pin B.bs B.vs σ) (h : OutS G W B fp H F (bnd f g env) N) :
    OutO G W σ fp H F (f env) fun a env1 H1 F1 fp1 v fr => OutS G W B (fr ++ fp1) H1 F1 (g a env1) N := by
  unfold bnd at h
  cases e : f env with
  | ok a env1 =>
    rw [e] at h
    exact fun H1 F1 fp1 v fr t1 s1 r d => OutS.later t1 h
  | exc x env1 =>
    rw [e] at h
    exact fun H' F' fp' c o t s rx => h σ H' F' fp' c o p t s rx
  | bad => rw [e] at h; exact h
theorem OutS.nx {env : En} {N : Ends} {fp1 : List Addr} {H1 : Hp} {F1 : FA} (h : OutS G W B fp H F (.ok .nx env) N) (p : Pin B.bs B.vs σ) (t : Tr fp H F H1 F1 fp1) (s : Sta G.K H1 F1 σ env fp1) : N.nx σ H1 := h σ H1 F1 fp1 p t s
end
section
variable {X : Cx} {W : WX} {B : Bx} {st : Stmt} {rest : List Stmt} {f g : En → Rs Fl} {e : Expr} {pos : Pos}
theorem psd_nil : PSs X [] (tS (gx X) W B sNext) := PSs.imp pss_nil fun N σ H ⟨p, env, F, fp, s, h⟩ => OutS.nx h p .refl s
theorem psd_cons (h1 : PS X st (tS (gx X) W B f)) (h2 : PSs X rest (tS (gx X) W B g)) : PSs X (st :: rest) (tS (gx X) W B (sSeq f g)) := PSs.imp (pss_cons h1 h2) fun N σ H ⟨p, env, F, fp, s, h⟩ => by
  refine ⟨p, env, F, fp, s, ?_⟩
  unfold sSeq at h
  cases e : f env with
  | ok fl env1 =>
    rw [e] at h
    cases fl with
    | nx => exact fun σ' H' F' fp' p' t s' => ⟨p', env1, F', fp', s', OutS.later t h⟩
    | brk => exact h
    | cnt => exact h
    | ret o => exact h
  | exc x env1 => rw [e] at h; exact h
  | bad => rw [e] at h; exact h
theorem psd_one (h1 : PS X st (tS (gx X) W B f)) : PSs X [st] (tS (gx X) W B f) := pss_one h1
theorem psd_pass : PS X (.Pass pos) (tS (gx X) W B sNext) := PS.imp ps_pass fun N σ H ⟨p, env, F, fp, s, h⟩ => OutS.nx h p .refl s
theorem psd_break : PS X (.Break pos) (tS (gx X) W B (ret .brk)) := PS.imp ps_break fun N σ H ⟨p, env, F, fp, s, h⟩ => h σ H F fp p .refl s
theorem psd_cont : PS X (.Continue pos) (tS (gx X) W B (ret .cnt)) := PS.imp ps_continue fun N σ H ⟨p, env, F, fp, s, h⟩ => h σ H F fp p .refl s
def sNever : En → Rs Fl := fun _ => .bad
theorem psd_never : PS X st (tS (gx X) W B sNever) := PS.imp ps_never fun N σ H ⟨p, env, F, fp, s, h⟩ => h
theorem pssd_never : PSs X rest (tS (gx X) W B sNever) := PSs.imp pss_never fun N σ H ⟨p, env, F, fp, s, h⟩ => h
/-! ### small ones -/
def sRet (f : En → Rs O) : En → Rs Fl := fun env₀ => (bnd f fun o => ret (.ret o)) env₀
theorem psd_ret {f : En → Rs O} (h : PE X e (tO (gx X) W f)) : PS X (.Return (some e) pos) (tS (gx X) W B (sRet f)) := PS.imp (ps_ret h) fun N σ H ⟨p, env, F, fp, s, h⟩ =>
  ⟨env, F, fp, s, OutO.mono (OutS.bindO p h) fun o env1 H1 F1 fp1 v fr t1 s1 r d h1 => h1 σ H1 F1 fp1 v fr p .refl s1 r d⟩
theorem psd_retN : PS X (.Return none pos) (tS (gx X) W B (ret (.ret (.sh .none)))) := PS.imp ps_retN fun N σ H ⟨p, env, F, fp, s, h⟩ => h σ H F fp .non [] p Tr.refl s (.sh .non) fun _ q => nomatch q
def sDo {α : Type} (f : En → Rs α) : En → Rs Fl := fun env₀ => (bnd f fun _ => ret .nx) env₀
theorem psd_expr {f : En → Rs D} (h : PE X e (tD (gx X) W f)) (hs : swapsWith e none pos.line X.env = pure false := by rfl) : PS X (.Expr e pos) (tS (gx X) W B (sDo f)) := PS.imp (ps_expr h hs) fun N σ H ⟨p, env, F, fp, s, h⟩ =>
  ⟨env, F, fp, s, Out.mono (OutS.bind p h) fun o env1 H1 F1 fp1 t1 s1 h1 v r => h1 σ H1 F1 fp1 p .refl s1⟩
def sIf (c : En → Rs Bool) (f g : En → Rs Fl) : En → Rs Fl := fun env₀ => (bnd c fun b env => if b = true then f env else g env) env₀
theorem psd_if {c : Expr} {a b : List Stmt} {fc : En → Rs Bool} (hc : PT X c (tT (gx X) W fc)) (ha : PSs X a (tS (gx X) W B f)) (hb : PSs X b (tS (gx X) W B g)) : PS X (.If c a b pos) (tS (gx X) W B (sIf fc f g)) := PS.imp (ps_if hc ha hb) fun N σ H ⟨p, env, F, fp, s, h⟩ => by
  refine ⟨env, F, fp, s, Out.mono (OutS.bind p h) fun b env1 H1 F1 fp1 t1 s1 h1 => ?_⟩
  cases b with
  | true => exact iteT ⟨p, env1, F1, fp1, s1, h1⟩
  | false => exact iteF ⟨p, env1, F1, fp1, s1, h1⟩
theorem Pin.set {bs : List Bool} {vs : List V} {σ : Sg} {i : Nat} {w : Option V} (p : Pin bs vs σ) (h : bs[i]? ≠ some true) : Pin bs vs (σ.set i w) := fun j v e1 e2 => by
  have : i ≠ j := fun q => h (q ▸ e1)
  rw [List.getElem?_set_ne this]
  exact p j v e1 e2
/-- x = e, an owned thing -/
def sSet (i : Nat) (f : En → Rs O) : En → Rs Fl := fun env₀ => (bnd f fun o env => if i < env.length then .ok .nx (env.set i (some o)) else .bad) env₀
theorem psd_set {i : Nat} {x : Str} {f : En → Rs O} {pos' : Pos} (hN : X.N.Nodup) (hx : Loc X.env.scope x) (he : PE X e (tO (gx X) W f)) (hb : B.bs[i]? ≠ some true) (hi : X.N[i]? = some x := by rfl) (hs : swapsWith e (some (.Name x pos')) pos.line X.env = pure false := by rfl) (hf : X.fn x = true ∨ X.env.scope.names.lookup x = some .local := by first | exact .inl rfl | exact .inr rfl | assumption) :
    PS X (.Assign [.Name x pos'] e pos) (tS (gx X) W B (sSet i f)) := PS.imp (ps_set hN hi hx he hs hf) fun N σ H ⟨p, env, F, fp, s, h⟩ => by
  refine ⟨env, F, fp, s, OutO.mono (OutS.bindO p h) fun o env1 H1 F1 fp1 v fr t1 s1 r d h1 => ?_⟩
  split at h1
  · rename_i hi
    obtain ⟨fp', re, hm⟩ := put_slot s1.re hi r d
    exact h1 (σ.set i (some v)) H1 F1 fp' (p.set hb) (Tr.refl.less hm) ⟨re, s1.fo⟩
  · exact h1.elim
/-! ### targets -/
abbrev Tg := D → En → Option En
def tgN (i : Nat) : Tg := fun d env => if i < env.length then some (env.set i (some (.sh d))) else none
def tgSeq : List Tg → List D → En → Option En
  | [], [], env => some env
  | t :: ts, d :: ds, env => (t d env).bind (tgSeq ts ds)
  | _, _, _ => none
def tgT (n : Nat) (ts : List Tg) : Tg := fun d env => match d with
  | .tuple ds => if ds.length = n then tgSeq ts ds env else none
  | _ => none
/-- ix: the slots that may be stored -/
def tG (G : Gx) (B : Bx) (ix : List Nat) (tg : Tg) : TG := fun v σ H Q => Pin B.bs B.vs σ ∧ ∃ env F fp d env', Sta G.K H F σ env fp ∧ Rep G.K H F v d ∧ tg d env = some env' ∧
  ∀ σ' H' F' fp', Pin B.bs B.vs σ' → wipe σ' ix = wipe σ ix → Tr fp H F H' F' fp' → Sta G.K H' F' σ' env' fp' → Q σ' H'
def tGs (G : Gx) (B : Bx) (ix : List Nat) (ts : List Tg) : TGs := fun xs σ H Q => Pin B.bs B.vs σ ∧ ∃ env F fp ds env', Sta G.K H F σ env fp ∧ RepA G.K H F xs ds ∧ tgSeq ts ds env = some env' ∧
  ∀ σ' H' F' fp', Pin B.bs B.vs σ' → wipe σ' ix = wipe σ ix → Tr fp H F H' F' fp' → Sta G.K H' F' σ' env' fp' → Q σ' H'
theorem PG.imp {tgt : Expr} {t t' : TG} (h : PG X tgt t) (k : ∀ v σ H Q, t' v σ H Q → t v σ H Q) : PG X tgt t' := ⟨fun pins s σ H v u Q I r w => h.run pins s σ H v u Q I r (k v σ H Q w)⟩
theorem PGs.imp {tgt : List Expr} {t t' : TGs} (h : PGs X tgt t) (k : ∀ v σ H Q, t' v σ H Q → t v σ H Q) : PGs X tgt t' := ⟨fun pins s σ H v u Q I r w => h.run pins s σ H v u Q I r (k v σ H Q w)⟩
theorem wipe_get {σ : Sg} : ∀ {ix : List Nat} (j : Nat), (wipe σ ix)[j]? = if j ∈ ix ∧ j < σ.length then some none else σ[j]?
  | [], j => by rw [if_neg (by simp)]; rfl
  | i :: ix, j => by
    unfold wipe
    by_cases e : i = j
    · subst e
      by_cases hl : i < σ.length
      · rw [List.getElem?_set_self (by rw [wipe_length]; exact hl), if_pos ⟨List.mem_cons_self, hl⟩]
      · rw [if_neg fun q => hl q.2, List.getElem?_eq_none (by rw [List.length_set, wipe_length]; omega), List.getElem?_eq_none (by omega)]
    · rw [List.getElem?_set_ne e, wipe_get j]
      have : (j ∈ i :: ix ∧ j < σ.length) ↔ (j ∈ ix ∧ j < σ.length) := by
        rw [List.mem_cons]
        exact ⟨fun ⟨a, b⟩ => ⟨a.resolve_left fun q => e q.symm, b⟩, fun ⟨a, b⟩ => ⟨.inr a, b⟩⟩
      simp only [this]
theorem wipe_set {σ : Sg} {ix : List Nat} {i : Nat} {v : Option V} (h : i ∈ ix) : wipe (σ.set i v) ix = wipe σ ix := by
  apply List.ext_getElem?
  intro j
  rw [wipe_get, wipe_get, List.length_set]
  by_cases c : j ∈ ix ∧ j < σ.length
  · rw [if_pos c, if_pos c]
  · rw [if_neg c, if_neg c]
    by_cases e : i = j
    · subst e
      have hl : ¬ i < σ.length := fun q => c ⟨h, q⟩
      rw [List.getElem?_eq_none (by rw [List.length_set]; omega), List.getElem?_eq_none (by omega)]
    · rw [List.getElem?_set_ne e]
theorem pgd_name {ix : List Nat} {i : Nat} {x : Str} (hN : X.N.Nodup) (hx : Loc X.env.scope x) (hb : B.bs[i]? ≠ some true) (hix : i ∈ ix) (hi : X.N[i]? = some x := by rfl) (hf : X.fn x = true ∨ X.env.scope.names.lookup x = some .local := by first | exact .inl rfl | exact .inr rfl | assumption) :
    PG X (.Name x pos) (tG (gx X) B ix (tgN i)) := PG.imp (pg_name hN hi hx hf) fun v σ H Q ⟨p, env, F, fp, d, env', s, r, e, k⟩ => by
  unfold tgN at e
  split at e
  · rename_i hl
    cases e
    obtain ⟨fp', re, hm⟩ := put_slot s.re hl (RO.sh r) fun _ q => nomatch q
    exact k (σ.set i (some v)) H F fp' (p.set hb) (wipe_set hix) (Tr.refl.less fun a q => by simpa using hm a q) ⟨re, s.fo⟩
  · cases e
theorem pgsd_nil {ix : List Nat} : PGs X [] (tGs (gx X) B ix []) := PGs.imp pgs_nil fun v σ H Q ⟨p, env, F, fp, d, env', s, r, e, k⟩ => by
  cases r with
  | nil => cases e; exact ⟨rfl, k σ H F fp p rfl .refl s⟩
  | cons _ _ => cases e
theorem pgsd_cons {ix : List Nat} {a : Expr} {as : List Expr} {t : Tg} {ts : List Tg} (h1 : PG X a (tG (gx X) B ix t)) (h2 : PGs X as (tGs (gx X) B ix ts))
    (hs : (assignEach (a :: as) X.env).map (·.2) = assign a X.env :: (assignEach as X.env).map (·.2) := by rfl) : PGs X (a :: as) (tGs (gx X) B ix (t :: ts)) := PGs.imp (pgs_cons h1 h2 hs) fun v σ H Q ⟨p, env, F, fp, d, env', s, r, e, k⟩ => by
  cases r with
  | nil => cases e
  | cons r rs =>
    obtain ⟨env1, e1, e2⟩ := Option.bind_eq_some_iff.mp (show (t _ env).bind (tgSeq ts _) = some env' from e)
    refine ⟨_, _, rfl, p, env, F, fp, _, env1, s, r, e1, fun σ1 H1 F1 fp1 p1 w1 t1 s1 => ?_⟩
    exact ⟨p1, env1, F1, fp1, _, env', s1, rs.mono (t1.stb s.re.nf), e2, fun σ2 H2 F2 fp2 p2 w2 t2 s2 => k σ2 H2 F2 fp2 p2 (w2.trans w1) (t1.trans t2) s2⟩
theorem pgd_tup {ix : List Nat} {as : List Expr} {k : Nat} {ts : List Tg} {n : Nat} (hc : X.calm = true) (h : PGs X as (tGs (gx X) B ix ts))
    (hn : (assignEach as X.env).length = n := by rfl) (hst : (assignEach as X.env).findIdx? (·.1) = none := by rfl) : PG X (.Tuple as k pos) (tG (gx X) B ix (tgT n ts)) := PG.imp (pg_tup hc h hn hst) fun v σ H Q ⟨p, env, F, fp, d, env', s, r, e, k⟩ => by
  unfold tgT at e
  split at e
  · split at e
    · rename_i hl
      cases r with
      | tup f q => exact ⟨_, _, rfl, f.sq, by rw [q.length]; exact hl, p, env, F, fp, _, env', s, q, e, k⟩
    · cases e
  · cases e
/-- target = e -/
def sAsg (f : En → Rs D) (tg : Tg) : En → Rs Fl := fun env₀ => (bnd f fun d env => match tg d env with
  | some env' => .ok .nx env'
  | none => .bad) env₀
theorem psd_asg {ix : List Nat} {t : Expr} {f : En → Rs D} {tg : Tg} (he : PE X e (tD (gx X) W f)) (hg : PG X t (tG (gx X) B ix tg)) (hs : swapsWithSole [t] e pos.line X.env = pure false := by rfl) (hw : swappedStores [t] e X.env = pure none := by rfl)
    (h1 : (assignEach [t] X.env).map (·.2) = [assign t X.env] := by rfl) : PS X (.Assign [t] e pos) (tS (gx X) W B (sAsg f tg)) := PS.imp (ps_asg he hg hs hw h1) fun N σ H ⟨p, env, F, fp, s, h⟩ => by
  refine ⟨env, F, fp, s, Out.mono (OutS.bind p h) fun d env1 H1 F1 fp1 t1 s1 h1 v r => ?_⟩
  split at h1
  · rename_i env' e'
    exact ⟨p, env1, F1, fp1, d, env', s1, r, e', fun σ' H' F' fp' p' _ t' s' => h1 σ' H' F' fp' p' t' s'⟩
  · exact h1.elim
/-! ### stores -/
theorem own_write {K : PySem.W.Frag} {H : Hp} {F : FA} {σ : Sg} {env : En} {fp : List Addr} {a : Addr} {ob : HO} (s : Sta K H F σ env fp) (na : a ∉ fp) (nF : ¬ F a) (ha : ∃ u, H a = some u) :
    Tr ([a] ++ fp) H F (upd H a ob) F ([a] ++ fp) ∧ Sta K (upd H a ob) F σ env fp ∧ Stb H F (upd H a ob) F := by
  have ne : ∀ b, F b → b ≠ a := fun b f q => by subst q; exact nF f
  have sb : Stb H F (upd H a ob) F := ⟨fun b u f z _ _ => by rw [upd_ne (ne b f)]; exact z, fun b u f _ z => by
    rcases z with z | ⟨o, z⟩
    · exact .inl (by rw [upd_ne (ne b f)]; exact z)
    · exact .inr ⟨o, by rw [upd_ne (ne b f)]; exact z⟩, fun _ h => h⟩
  refine ⟨⟨fun b u e n => ⟨?_, id⟩, fun _ h => h, fun _ h => .inl h⟩, ⟨s.re.mono sb fun b q => ⟨upd_ne fun z => ?_, id⟩, fun b q => ?_⟩, sb⟩
  · rw [upd_ne fun q => n (List.mem_append_left _ (List.mem_singleton.mpr q))]; exact e
  · subst z; exact na q
  · obtain ⟨u, z⟩ := s.fo b q
    exact ⟨u, by rw [upd_ne (ne b q)]; exact z⟩
theorem own_write_kp {H : Hp} {F : FA} {a : Addr} {ob : HO} (nF : ¬ F a) : Kp H F (upd H a ob) F := ⟨fun b u f z => by
  have hn : b ≠ a := fun q => nF (by rw [← q]; exact f)
  rw [upd_ne hn]; exact z, fun _ h => h⟩
/-- x[k] = e, x a dict of one's own -/
def sPut (i : Nat) (fk : En → Rs D) (fe : En → Rs D) : En → Rs Fl := fun env₀ => (bnd fe fun d env => match env[i]? with
  | some (some (.dic _)) => bnd fk (fun k env => match env[i]? with
    | some (some (.dic kvs)) => match keyOf k with
      | some key => if kvs.length < sizeLine then .ok .nx (env.set i (some (.dic (putO kvs key (.sh d))))) else .bad
      | none => .bad
    | _ => .bad) env
  | _ => .bad) env₀
theorem ROk.putSh {K : PySem.W.Frag} {H : Hp} {F : FA} {k : Key} {v : V} {d : D} {vs : List (Key × V)} {ds : List (Key × O)} {fp : List Addr} (h : ROk K H F vs ds fp) (r : Rep K H F v d) : ∃ fp', ROk K H F (putK vs k v) (putO ds k (.sh d)) fp' ∧ ∀ a ∈ fp', a ∈ fp := by
  unfold putK putO
  rw [h.any]
  split
  · exact h.repl r
  · obtain ⟨fp', q, hm⟩ := h.snoc (k := k) (RO.sh r) fun _ q => nomatch q
    exact ⟨fp', q, fun a z => by simpa using (hm a).mp z⟩
theorem psd_put (hu : X.A.units + 1 < cLine) (i : Nat) {x : Str} {p2 pos' : Pos} {b : Expr} {fk fe : En → Rs D} (hb : PE X b (tD (gx X) W fk)) (he : PE X e (tD (gx X) W fe)) (hN : X.N[i]? = some x := by rfl) (hv : Vis X.env.scope x := by first | exact Or.inl rfl | exact Or.inr (Or.inl rfl) | exact Or.inr (Or.inr rfl)) (hd : (x == ("__debug__" : Str)) = false := by decide)
    (hcd : (x == ("__classdict__" : Str)) = false := by decide) (hs : swapsWith e (some (.Subscript (.Name x p2) b pos')) pos.line X.env = pure false := by rfl) : PS X (.Assign [.Subscript (.Name x p2) b pos'] e pos) (tS (gx X) W B (sPut i fk fe)) :=
  PS.imp (ps_dput hu (pe_var hN hv hd hcd) hb he hs) fun N σ H ⟨p, env, F, fp, s, h⟩ => by
    refine ⟨env, F, fp, s, Out.mono (OutS.bind p h) fun d env1 H1 F1 fp1 t1 s1 h1 v r => ?_⟩
    split at h1
    · rename_i kvs0 he0
      obtain ⟨w, _, _, ew, _, _, _, _⟩ := pv_of s1.re he0
      refine ⟨w, ew, env1, F1, fp1, s1, Out.mono (OutS.bind p h1) fun k env2 H2 F2 fp2 t2 s2 h2 y ry => ?_⟩
      split at h2
      · rename_i kvs he2
        split at h2
        · rename_i key ek
          split at h2
          · rename_i hl
            obtain ⟨w2, f1, fp3, e1, r2, re3, hm, hd⟩ := take_slot s2.re he2
            rw [ew] at e1
            cases e1
            cases r2 with
            | @dic a kv _ fpd ha hf q hn =>
              have na3 : a ∉ fp3 := hd a List.mem_cons_self
              obtain ⟨z1, z2, z3⟩ := own_write (ob := .dK (putK kv key v)) ⟨re3, s2.fo⟩ na3 hf ⟨_, ha⟩
              have rv : Rep X.K (upd H2 a (.dK (putK kv key v))) F2 v d := (r.tr s1.re t2).mono z3
              have q' : ROk X.K (upd H2 a (.dK (putK kv key v))) F2 kv kvs fpd := q.mono z3 fun b zb => ⟨upd_ne fun w => hn (by rw [← w]; exact zb), id⟩
              obtain ⟨fp4, q4, hm4⟩ := q'.putSh (k := key) rv
              have ro : RO X.K (upd H2 a (.dK (putK kv key v))) F2 (.ref a) (.dic (putO kvs key (.sh d))) (a :: fp4) := .dic upd_same hf q4 fun zz => hn (hm4 a zz)
              have hi : i < env2.length := (List.getElem?_eq_some_iff.mp he2).1
              obtain ⟨fp5, re5, hm5⟩ := put_slot (i := i) z2.re (by rw [List.length_set]; exact hi) ro fun b zb zb' => by
                rcases List.mem_cons.mp zb with zb | zb
                · exact na3 (by rw [← zb]; exact zb')
                · exact hd b (List.mem_cons_of_mem _ (hm4 b zb)) zb'
              rw [set_get ew, List.set_set] at re5
              refine ⟨a, _, rfl, .inl ⟨kv, key, ha, ry.key ek, by rw [q.length]; exact hl, rfl⟩, h2 σ _ F2 fp5 p ⟨fun b u e n => ?_, fun _ h => h, fun b zb => ?_⟩ ⟨re5, z2.fo⟩⟩
              · refine z1.keep b u e fun zz => n ?_
                rcases List.mem_append.mp zz with zz | zz
                · exact (hm b).mpr (.inl (by rw [List.mem_singleton.mp zz]; exact List.mem_cons_self))
                · exact (hm b).mpr (.inr zz)
              · rcases List.mem_append.mp (hm5 b zb) with zz | zz
                · rcases List.mem_cons.mp zz with zz | zz
                  · exact .inl ((hm _).mpr (.inl (by rw [zz]; exact List.mem_cons_self)))
                  · exact .inl ((hm _).mpr (.inl (List.mem_cons_of_mem _ (hm4 b zz))))
                · exact .inl ((hm _).mpr (.inr zz))
          · exact h2.elim
        · exact h2.elim
      · exact h2.elim
    · exact h1.elim
end
end VH
set_option Elab.async false
set_option linter.all false
set_option maxRecDepth 100000
set_option maxHeartbeats 4000000
namespace PySem
/-! ### enumerate of a tuple -/
section
open Sem (wp)
open AutoSeq1 (wpAny_loadPart')
theorem vh_enumNewT (l : Addr) (items : Array Value) (n : Nat) (dct : Option Addr) (sl : Array (Option Value)) :
    Meets (Builtin.«enumerate.__new__» ⟨[.type "enumerate", .ref l], []⟩) (fun _ R s => s.heap.get? l = some { cls := .type "tuple", dict := dct, data := .seq items n, slots := sl } ∧
      R (.ok (.ret (.ref (s.heap.push { cls := .type "tuple_iterator", data := .fields #[.ref l, .int 0 0] }).objs.size)))
        { s with heap := (s.heap.push { cls := .type "tuple_iterator", data := .fields #[.ref l, .int 0 0] }).push { cls := .type "enumerate", data := .fields #[.none, .bool false, .ref s.heap.objs.size, rawInt 0, .none, .none] } }) :=
  .of_wp fun prog w A R s h => by
    obtain ⟨hp, g, d, tk, os⟩ := s; obtain ⟨hl, h⟩ := h
    have hsub := sub_enumerate
    have hT : Heap.IsTuple (Shared.heap ⟨hp, g, d, tk, os⟩) l items := ⟨_, hl, rfl, n, rfl⟩
    wp_walk using wpAny_loadPart' hl
    refine wpAny_stack_any fun st => wpAny_pure ?_
    split
    · rename_i c _ _ _ _ _
      cases (c == Value.type "enumerate")
      · wp_walk using wpAny_loadPart' hl, wpAny_pyIter_tuple hT
        exact ⟨_, rfl, h⟩
      · wp_walk using wpAny_loadPart' hl, wpAny_pyIter_tuple hT
        exact ⟨_, rfl, h⟩
    · wp_walk using wpAny_loadPart' hl, wpAny_pyIter_tuple hT
      exact ⟨_, rfl, h⟩
variable {prog : Program} {w : World} {A : Around} {E : Value → Shared → Prop} {s : Shared}
theorem vh_callEnumT {l : Addr} {items : Array Value} {Q : Value → Shared → Prop} (hL : s.heap.IsTuple l items)
    (h : ∀ h', IsEnum h' (s.heap.objs.size + 1) s.heap.objs.size 0 .none → h'.IsTupleIter s.heap.objs.size l 0 → h'.objs.size = s.heap.objs.size + 2 →
      (∀ b o, s.heap.get? b = some o → h'.get? b = some o) → Q (.ref (s.heap.objs.size + 1)) { s with heap := h' }) :
    wpAny (model prog w) A (call (.type "enumerate") [.ref l]) Q E s := by
  obtain ⟨⟨c, dct, dt, sl⟩, hl, hc, n, hd⟩ := hL
  replace hc : c = .type "tuple" := hc
  replace hd : dt = .seq items n := hd
  subst hc hd
  refine callType_new F.called_enumerate (by decide) (F.typeCall_enumerate_1 _) (F.newCall_enumerate_1 _) (fun obj => F.args_object_init_2 obj _) F.entry_enumerate_new
    (vh_enumNewT l items n dct sl) ⟨hl, ?_⟩
  have hz : (s.heap.push { cls := .type "tuple_iterator", data := .fields #[.ref l, .int 0 0] }).objs.size = s.heap.objs.size + 1 := Heap.size_push ..
  show _ ∧ _
  rw [hz]
  have he : IsEnum ((s.heap.push { cls := .type "tuple_iterator", data := .fields #[.ref l, .int 0 0] }).push
      { cls := .type "enumerate", data := .fields #[.none, .bool false, .ref s.heap.objs.size, rawInt 0, .none, .none] }) (s.heap.objs.size + 1) s.heap.objs.size 0 .none := by
    have := Heap.get?_push_size (s.heap.push { cls := .type "tuple_iterator", data := .fields #[.ref l, .int 0 0] })
      (o := { cls := .type "enumerate", data := .fields #[.none, .bool false, .ref s.heap.objs.size, rawInt 0, .none, .none] }) rfl
    rw [hz] at this; exact this
  refine ⟨⟨_, he, rfl⟩, h _ he ⟨_, Heap.get?_push_of_some _ (Heap.get?_push_size _ rfl), rfl, rfl⟩ (by rw [Heap.size_push, hz]) fun b o x => Heap.get?_push_of_some _ (Heap.get?_push_of_some _ x)⟩
end
end PySem
namespace VH
open PySem PySem.Spec PyProof.Rows L2

/-- the tuple at a, each item in a new pair -/
def IteT (K : PySem.W.Frag) (a : Addr) (n : Nat) : It :=
  ⟨fun i H => ∃ (xs : List V) (x : V), SqT K H a xs ∧ xs.length = n ∧ xs[i]? = some x, fun i H v H' => ∃ T x, v = .ref T ∧ H T = none ∧ H' = upd H T (.tup [.int (i : Nat), x]) ∧ ∀ xs, SqT K H a xs → xs[i]? = some x, fun i H => ∃ xs : List V, SqT K H a xs ∧ xs.length = n ∧ n ≤ i⟩
theorem turn_enumT {P : Program} {w : World} {K : PySem.W.Frag} {elts : List Expr} {kk : Nat} {tpos : Pos} (a e it : Addr) (n : Nat) :
    Turn P w K (.Tuple elts kk tpos) (IteT K a n) [e, it] e (fun i h => i ≤ n ∧ (∃ old, IsEnum h e it ((i : Nat) : Int) old) ∧ h.IsTupleIter it a i ∧ e ≠ it ∧ a ≠ e ∧ a ≠ it) where
  mem := by simp
  obj := fun i h st b hb => by
    obtain ⟨_, ⟨old, he⟩, ⟨o, ho, hc, hd⟩, _⟩ := st
    have e' : b = e ∨ b = it := by simpa using hb
    rcases e' with z | z
    · rw [z]; exact ⟨_, he, fun v q => nomatch q⟩
    · rw [z]; exact ⟨o, ho, fun v q => by rw [hd] at q; cases q⟩
  keep := fun i h h' st k => let ⟨hn, ⟨old, he⟩, hi, hne, n1, n2⟩ := st; ⟨hn, ⟨old, k e (by simp) _ he⟩, hi.at fun o q => k it (by simp) o q, hne, n1, n2⟩
  item := by
    intro X hP hw hK hc i pins s σ H E I hf st hg
    subst hP hw hK
    obtain ⟨_, ⟨old, he⟩, hit, hne, n1, n2⟩ := st
    obtain ⟨xs, x, hq, hln, hx⟩ := hg
    obtain ⟨its, rv, p, hz⟩ := I.tuple hq
    obtain ⟨u, hu, ru⟩ := rv.get hx
    have hel : e < s.heap.objs.size := Heap.lt_size he
    have hil : it < s.heap.objs.size := by obtain ⟨_, q, _⟩ := hit; exact Heap.lt_size q
    have pt : s.heap.IsTuple a its.toArray := p
    have hin : i < its.toArray.size := by
      obtain ⟨q, _⟩ := List.getElem?_eq_some_iff.mp hu
      simpa using q
    refine wpAny_pyNext_enum_itemD (Draws.tuple (prog := X.prog) (w := X.w) (A := X.A.in1) (I.ok.hd hc) it a n2 its.toArray) he ⟨hit, pt⟩ hin hne (by
      intro q
      have q' : e = it ∨ e = a := by simpa using q
      exact q'.elim hne fun z => n1 z.symm) fun y h' tk hP ho hst hT hsz hk => ?_
    have ey : y = u := by
      have z : its.toArray[i]? = some u := by simpa using hu
      rw [z] at hP; cases hP; rfl
    subst ey
    refine ⟨_, rfl, wpAny_letOwnedTupleGo_enum (s := { s with heap := h', toks := tk + 1 }) ho fun h'' he' sb => ?_⟩
    have hT2 : h''.get? s.heap.objs.size = some { cls := .type "tuple", data := .seq #[.int i tk, y] } := (sb.2 _ (Nat.ne_of_gt hel)).trans hT
    have new : ObjOk X.prog X.w (upd H s.heap.objs.size (.tup [.int (i : Nat), x])) h'' s.heap.objs.size (.tup [.int (i : Nat), x]) :=
      ⟨by show 2 ≤ sizeLine; decide, [.int i tk, y], .cons ⟨_, rfl⟩ (.cons ru .nil), ⟨_, hT2, rfl, _, rfl⟩⟩
    have I1 : Inv X pins σ (upd H s.heap.objs.size (.tup [.int (i : Nat), x])) { s with heap := h'', toks := tk + 1 } :=
      I.turnedNew (ch := [e, it]) (fun b ob hb q => (sb.2 b (fun z => hb (by simp [z]))).trans (hk b ob (fun z => hb (by simp [z])) (fun z => hb (by simp [z])) q)) hf (Nat.le_refl _) new
    refine ⟨.ref s.heap.objs.size, _, I1, rfl, ⟨_, x, rfl, I.hok.fresh (Nat.le_refl _), rfl, fun ys hy => by rw [I.tuple_inj hy hq]; exact hx⟩, ⟨by have := (List.getElem?_eq_some_iff.mp hx).1; omega, ⟨y, ?_⟩, hst.1.at fun o q => (sb.2 it (Ne.symm hne)).trans q, hne, n1, n2⟩, fun b hb => ?_⟩
    · have e1 : ((i + 1 : Nat) : Int) = (i : Int) + 1 := by omega
      rw [e1]; exact he'
    · have hb' : b < s.heap.objs.size := by
        have e' : b = e ∨ b = it := by simpa using hb
        rcases e' with z | z
        · rw [z]; exact hel
        · rw [z]; exact hil
      rw [upd_ne (Nat.ne_of_lt hb')]
      exact (hf b hb).1
  done := by
    intro X hP hw hK hc i pins s σ H E I hf st hg
    subst hP hw hK
    obtain ⟨hin, ⟨old, he⟩, hit, hne, n1, n2⟩ := st
    obtain ⟨xs, hq, hln, hx⟩ := hg
    obtain ⟨its, rv, p, hz⟩ := I.tuple hq
    obtain ⟨f0, f1, f2, f3, f4, f5⟩ := hf it (by simp)
    have hl := rv.length
    have pt : s.heap.IsTuple a its.toArray := p
    have ei : its.toArray.size = i := by simp; omega
    exact wpAny_pyNext_enum_endD (Draws.tuple (prog := X.prog) (w := X.w) (A := X.A.in1) (I.ok.hd hc) it a n2 its.toArray) he ⟨by rw [ei]; exact hit, pt⟩ fun h' eb => ⟨rfl, I.turned (t' := s.toks) (fun b o hb q => eb b o hb q) f0 f1 f3 f4 f5⟩
  self := fun A i s Q E st h => let ⟨_, ⟨_, he⟩, _⟩ := st; wpAny_pyIter_enum he h
theorem iterFp {X : Cx} {pins : List (Addr × Obj)} {σ : Sg} {H : Hp} {s : Shared} (I : Inv X pins σ H s) {b : Addr} (h : b = s.heap.objs.size + 1 ∨ b = s.heap.objs.size) : FpOk X pins H b := by
  have hle : s.heap.objs.size ≤ b := by
    rcases h with z | z
    · rw [z]; exact Nat.le_add_right _ _
    · rw [z]; exact Nat.le_refl _
  exact I.fpOk hle (I.hok.fresh hle)

/-! ### what is walked, as data -/
theorem Stb.trans {H H1 H2 : Hp} {F F1 F2 : FA} (a : Stb H F H1 F1) (b : Stb H1 F1 H2 F2) : Stb H F H2 F2 :=
  ⟨fun x u f e n m => b.un x u (a.fz x f) (a.un x u f e n m) n m, fun x u f n e => b.rd x u (a.fz x f) n (a.rd x u f n e), fun x f => b.fz x (a.fz x f)⟩
structure Wk (K : PySem.W.Frag) (J : It) (H : Hp) (F : FA) (items : List D) : Prop where
  len : items.length ≤ sizeLine
  go : ∀ H2 F2, Kp H F H2 F2 → ∀ i d, items[i]? = some d → J.go i H2 ∧ ∀ x H', J.yld i H2 x H' → ∃ F', Nw H2 F2 H' F' ∧ Rep K H' F' x d
  stop : ∀ H2 F2, Kp H F H2 F2 → ∀ i, items.length ≤ i → J.stop i H2
def tI (G : Gx) (W : WX) (f : En → Rs (List D)) : TI := fun σ H R => ∃ env F fp, Sta G.K H F σ env fp ∧ Out G W σ fp H F (f env) fun items _ H' F' _ => ∀ J, Wk G.K J H' F' items → R J H'
theorem PI.imp {X : Cx} {tg e : Expr} {t t' : TI} (h : PI X tg e t) (k : ∀ σ H R, t' σ H R → t σ H R) : PI X tg e t' := ⟨fun pins s σ H R I w => h.run pins s σ H R I (k σ H R w)⟩
section
variable {K : PySem.W.Frag} {H : Hp} {F : FA} {a : Addr} {xs : List V} {ds : List D}
theorem wk_list (f : FL H F a xs) (q : RepA K H F xs ds) (hz : xs.length ≤ sizeLine) : Wk K (Itl K a) H F ds where
  len := by rw [← q.length]; exact hz
  go := fun H2 F2 kp i d e => by
    have sb := kp.stb
    have f2 : FL H2 F2 a xs := ⟨sb.fz _ f.1, sb.un _ _ f.1 f.2 (fun _ _ z => nomatch z) fun _ z => nomatch z⟩
    obtain ⟨v, ev, r⟩ := (q.mono sb).get e
    refine ⟨⟨xs, v, f2.sq, ev⟩, fun x H' ⟨eH, y⟩ => ?_⟩
    subst eH
    have z := y xs f2.sq
    rw [ev] at z; cases z
    exact ⟨F2, .refl, r⟩
  stop := fun H2 F2 kp i h => by
    have sb := kp.stb
    have f2 : FL H2 F2 a xs := ⟨sb.fz _ f.1, sb.un _ _ f.1 f.2 (fun _ _ z => nomatch z) fun _ z => nomatch z⟩
    exact ⟨xs, f2.sq, by rw [q.length]; exact h⟩
theorem FT.mono {H2 : Hp} {F2 : FA} (f : FT K H F a xs) (sb : Stb H F H2 F2) : FT K H2 F2 a xs := by
  rcases f with f | f
  · exact .inl ⟨sb.fz _ f.1, sb.un _ _ f.1 f.2 (fun _ _ z => nomatch z) fun _ z => nomatch z⟩
  · exact .inr f
theorem wk_tup (f : FT K H F a xs) (q : RepA K H F xs ds) (hz : xs.length ≤ sizeLine) : Wk K (Itt K a) H F ds where
  len := by rw [← q.length]; exact hz
  go := fun H2 F2 kp i d e => by
    have sb := kp.stb
    obtain ⟨v, ev, r⟩ := (q.mono sb).get e
    refine ⟨⟨xs, v, (f.mono sb).sq, ev⟩, fun x H' ⟨eH, y⟩ => ?_⟩
    subst eH
    have z := y xs (f.mono sb).sq
    rw [ev] at z; cases z
    exact ⟨F2, .refl, r⟩
  stop := fun H2 F2 kp i h => have sb := kp.stb; ⟨xs, (f.mono sb).sq, by rw [q.length]; exact h⟩
def pairD (i : Nat) (d : D) : D := .tuple [.int i, d]
def enumL (ds : List D) : List D := ds.zipIdx.map fun p => pairD p.2 p.1
theorem enumL_len (ds : List D) : (enumL ds).length = ds.length := by simp [enumL]
theorem enumL_get {ds : List D} {i : Nat} {d : D} (h : (enumL ds)[i]? = some d) : ∃ e, ds[i]? = some e ∧ d = pairD i e := by
  unfold enumL at h
  rw [List.getElem?_map, List.getElem?_zipIdx] at h
  cases q : ds[i]? with
  | none => rw [q] at h; cases h
  | some e =>
    rw [q] at h
    refine ⟨e, rfl, ?_⟩
    simp at h
    exact h.symm
theorem wk_enum (f : FL H F a xs) (q : RepA K H F xs ds) (hz : xs.length ≤ sizeLine) : Wk K (Ite K a) H F (enumL ds) where
  len := by rw [enumL_len, ← q.length]; exact hz
  go := fun H2 F2 kp i d e => by
    have sb := kp.stb
    have f2 : FL H2 F2 a xs := ⟨sb.fz _ f.1, sb.un _ _ f.1 f.2 (fun _ _ z => nomatch z) fun _ z => nomatch z⟩
    obtain ⟨d0, e0, rfl⟩ := enumL_get e
    obtain ⟨v, ev, r⟩ := (q.mono sb).get e0
    refine ⟨⟨xs, v, f2.sq, ev⟩, fun x H' ⟨T, y, ex, nT, eH, yy⟩ => ?_⟩
    have z := yy xs f2.sq
    rw [ev] at z; cases z
    subst ex eH
    exact ⟨_, Nw.lay nT, .tup (.inl ⟨.inr rfl, upd_same⟩) (.cons (.int _) (.cons (r.nw (Nw.lay nT)) .nil))⟩
  stop := fun H2 F2 kp i h => by
    have sb := kp.stb
    have f2 : FL H2 F2 a xs := ⟨sb.fz _ f.1, sb.un _ _ f.1 f.2 (fun _ _ z => nomatch z) fun _ z => nomatch z⟩
    exact ⟨xs, f2.sq, by rw [q.length, ← enumL_len]; exact h⟩
theorem wk_enumT (f : FT K H F a xs) (q : RepA K H F xs ds) (hz : xs.length ≤ sizeLine) : Wk K (IteT K a xs.length) H F (enumL ds) where
  len := by rw [enumL_len, ← q.length]; exact hz
  go := fun H2 F2 kp i d e => by
    have sb := kp.stb
    obtain ⟨d0, e0, rfl⟩ := enumL_get e
    obtain ⟨v, ev, r⟩ := (q.mono sb).get e0
    refine ⟨⟨xs, v, (f.mono sb).sq, rfl, ev⟩, fun x H' ⟨T, y, ex, nT, eH, yy⟩ => ?_⟩
    have z := yy xs (f.mono sb).sq
    rw [ev] at z; cases z
    subst ex eH
    exact ⟨_, Nw.lay nT, .tup (.inl ⟨.inr rfl, upd_same⟩) (.cons (.int _) (.cons (r.nw (Nw.lay nT)) .nil))⟩
  stop := fun H2 F2 kp i h => have sb := kp.stb; ⟨xs, (f.mono sb).sq, rfl, by rw [q.length, ← enumL_len]; exact h⟩
def rngL (lo : Int) (n : Nat) : List D := (List.range n).map fun (i : Nat) => .int (lo + i)
theorem wk_rng {lo : Int} {n : Nat} (hz : n ≤ sizeLine) : Wk K (Itr lo n) H F (rngL lo n) where
  len := by simpa [rngL] using hz
  go := fun H2 F2 kp i d e => by
    have sb := kp.stb
    unfold rngL at e
    rw [List.getElem?_map] at e
    cases q : (List.range n)[i]? with
    | none => rw [q] at e; cases e
    | some j =>
      rw [q] at e
      obtain ⟨h1, h2⟩ := List.getElem?_eq_some_iff.mp q
      rw [List.getElem_range] at h2
      subst h2
      cases e
      exact ⟨show i < n by simpa using h1, fun x H' ⟨e1, e2⟩ => by subst e1 e2; exact ⟨F2, .refl, .int _⟩⟩
  stop := fun H2 F2 kp i h => show n ≤ i by simpa [rngL] using h
def charL (z : Str) : List D := z.cps.toList.map fun c => .str ⟨#[c]⟩
theorem wk_str {z : Str} (hz : z.length ≤ sizeLine) : Wk K (Its z) H F (charL z) where
  len := by simpa [charL, Str.length] using hz
  go := fun H2 F2 kp i d e => by
    have sb := kp.stb
    unfold charL at e
    rw [List.getElem?_map, Array.getElem?_toList] at e
    cases q : z.cps[i]? with
    | none => rw [q] at e; cases e
    | some c =>
      rw [q] at e
      cases e
      refine ⟨(Array.getElem?_eq_some_iff.mp q).1, fun x H' ⟨e1, c', e2, e3⟩ => ?_⟩
      rw [q] at e2; cases e2
      subst e1 e3
      exact ⟨F2, .refl, .str _⟩
  stop := fun H2 F2 kp i h => show z.cps.size ≤ i by simpa [charL] using h
end
end VH
set_option Elab.async false
set_option linter.all false
set_option maxRecDepth 100000
set_option maxHeartbeats 4000000
namespace VH
open PySem PySem.Spec PyProof.Rows L2

/-! ### sources -/
def itemsD : D → Option (List D)
  | .list xs => some xs
  | .tuple xs => some xs
  | .str z => if z.length ≤ sizeLine then some (charL z) else none
  | _ => none
def eSeq (f : En → Rs D) : En → Rs (List D) := fun env₀ => (bnd f fun d => lift (itemsD d)) env₀
def enumD : D → Option (List D)
  | .list xs => some (enumL xs)
  | .tuple xs => some (enumL xs)
  | _ => none
def eEnum (f : En → Rs D) : En → Rs (List D) := fun env₀ => (bnd f fun d => lift (enumD d)) env₀
def rngD (i j : D) : Option (List D) := match i, j with
  | .int i, .int j => if -(2 ^ 62) ≤ i ∧ i < 2 ^ 62 ∧ -(2 ^ 62) ≤ j ∧ j < 2 ^ 62 ∧ (j - i).toNat ≤ sizeLine then some (rngL i (j - i).toNat) else none
  | _, _ => none
def rng1D : D → Option (List D)
  | .int j => if -(2 ^ 62) ≤ j ∧ j < 2 ^ 62 ∧ j.toNat ≤ sizeLine then some (rngL 0 j.toNat) else none
  | _ => none
def eRng (f : En → Rs D) : En → Rs (List D) := fun env₀ => (bnd f fun d => lift (rng1D d)) env₀
def eRng2 (f g : En → Rs D) : En → Rs (List D) := fun env₀ => (bnd f fun d => bnd g fun e => lift (rngD d e)) env₀
section
variable {X : Cx} {W : WX} {B : Bx} {e e2 tg : Expr} {f g : En → Rs D} {pos p : Pos}
theorem tI_D {op : D → Option (List D)} {σ : Sg} {H : Hp} {R : It → Hp → Prop} (h : tI (gx X) W (bnd f fun d => lift (op d)) σ H R) :
    tD (gx X) W f σ H fun x H1 => ∃ F1 d items, Rep X.K H1 F1 x d ∧ op d = some items ∧ ∀ J, Wk X.K J H1 F1 items → R J H1 := by
  obtain ⟨env, F, fp, st, h⟩ := h
  refine ⟨env, F, fp, st, Out.mono h.bind fun d env1 H1 F1 fp1 t1 s1 h1 v r => ?_⟩
  obtain ⟨l, el, h2⟩ := h1.lift
  exact ⟨F1, d, l, r, el, h2 H1 F1 fp1 .refl s1⟩
theorem tI_D2 {op : D → D → Option (List D)} {σ : Sg} {H : Hp} {R : It → Hp → Prop} (h : tI (gx X) W (bnd f fun d => bnd g fun e => lift (op d e)) σ H R) :
    tD (gx X) W f σ H fun x H1 => tD (gx X) W g σ H1 fun y H2 => ∃ F2 d e items, Rep X.K H2 F2 x d ∧ Rep X.K H2 F2 y e ∧ op d e = some items ∧ ∀ J, Wk X.K J H2 F2 items → R J H2 := by
  obtain ⟨env, F, fp, st, h⟩ := h
  refine ⟨env, F, fp, st, Out.mono h.bind fun d env1 H1 F1 fp1 t1 s1 h1 v r => ?_⟩
  refine ⟨env1, F1, fp1, s1, Out.mono h1.bind fun d2 env2 H2 F2 fp2 t2 s2 h2 v2 r2 => ?_⟩
  obtain ⟨l, el, h3⟩ := h2.lift
  exact ⟨F2, d, d2, l, r.tr s1.re t2, r2, el, h3 H2 F2 fp2 .refl s2⟩
theorem pid_seq (he : PE X e (tD (gx X) W f)) : PI X tg e (tI (gx X) W (eSeq f)) := by
  refine ⟨fun pins s σ H R I h => ?_⟩
  refine thn (he.run pins s σ H _ I (tI_D h)) fun v s1 ⟨x, H1, I1, r1, F1, d, items, r, e1, k⟩ => ?_
  unfold itemsD at e1
  split at e1
  · cases e1
    cases r with
    | @lst a xs ds fl q =>
      cases r1
      obtain ⟨its, rv, pl, hz⟩ := I1.list fl.sq
      refine wpAny_pyIter_list pl.isList ⟨s1.heap.objs.size, [s1.heap.objs.size], _, _, H1, rfl, I1.kept (t' := s1.toks) fun b o z => Heap.get?_push_of_some _ z, turn_list a _, ⟨_, Heap.get?_push_size _ rfl, rfl, rfl⟩, fun b hb => ?_, k _ (wk_list fl q hz)⟩
      rw [List.mem_singleton.mp hb]
      exact iterFp I1 (.inr rfl)
  · cases e1
    cases r with
    | @tup a xs ds fl q =>
      cases r1
      obtain ⟨its, rv, pl, hz⟩ := I1.tuple fl.sq
      refine wpAny_pyIter_tuple (show s1.heap.IsTuple a its.toArray from pl) ⟨s1.heap.objs.size, [s1.heap.objs.size], _, _, H1, rfl, I1.kept (t' := s1.toks) fun b o z => Heap.get?_push_of_some _ z, turn_tuple a _, ⟨_, Heap.get?_push_size _ rfl, rfl, rfl⟩, fun b hb => ?_, k _ (wk_tup fl q hz)⟩
      rw [List.mem_singleton.mp hb]
      exact iterFp I1 (.inr rfl)
  · rename_i z
    split at e1
    · rename_i hz
      cases e1
      cases r with
      | str =>
        obtain ⟨t, rfl⟩ := r1
        refine wpAny_pyIter_strU ?_
        refine pi_one (tk := s1.toks) I1 _ (turn_str _ z t (strIterType z) ?_) ?_ (k _ (wk_str hz))
        · unfold strIterType
          split
          · exact .inl rfl
          · exact .inr rfl
        · exact ⟨_, Heap.get?_push_size _ rfl, rfl, rfl⟩
    · cases e1
  · cases e1
theorem pid_rng {a : Expr} (hg : Gl X "range") (hm : X.mg "range" = none) (ha : PE X a (tD (gx X) W f)) (hs : starEach [a] X.env = [(false, eval a X.env)] := by rfl) : PI X tg (.Call (.Name "range" p) [a] [] pos) (tI (gx X) W (eRng f)) :=
  PI.imp (pi_range1 hg hm (pa_cons ha pa_nil hs) hs) fun σ H R h => by
    refine tD_imp (tI_D h) fun v H1 ⟨F1, d, items, r, ed, k⟩ => ?_
    unfold rng1D at ed
    split at ed
    · split at ed
      · rename_i hb
        cases ed
        cases r
        exact ⟨_, rfl, hb.1, hb.2.1, k _ (wk_rng hb.2.2)⟩
      · cases ed
    · cases ed
theorem pid_rng2 {a b : Expr} (hg : Gl X "range") (hm : X.mg "range" = none) (ha : PE X a (tD (gx X) W f)) (hb : PE X b (tD (gx X) W g)) (hs : starEach [a, b] X.env = [(false, eval a X.env), (false, eval b X.env)] := by rfl) (hs2 : starEach [b] X.env = [(false, eval b X.env)] := by rfl) :
    PI X tg (.Call (.Name "range" p) [a, b] [] pos) (tI (gx X) W (eRng2 f g)) :=
  PI.imp (pi_range2 hg hm (pa_cons ha (pa_cons hb pa_nil hs2) (by rw [hs, hs2])) hs hs2) fun σ H R h => by
    refine tD_imp (tI_D2 h) fun v H1 hq => tD_imp hq fun v2 H2 ⟨F2, d, e, items, r, r2, ed, k⟩ => ?_
    unfold rngD at ed
    split at ed
    · split at ed
      · rename_i hb
        cases ed
        cases r
        cases r2
        exact ⟨_, _, rfl, ⟨hb.1, hb.2.1, hb.2.2.1, hb.2.2.2.1⟩, k _ (wk_rng hb.2.2.2.2)⟩
      · cases ed
    · cases ed
theorem pid_enum {a : Expr} {elts : List Expr} {kk : Nat} {tpos : Pos} (hg : Gl X "enumerate") (hm : X.mg "enumerate" = none) (ha : PE X a (tD (gx X) W f)) (hs : starEach [a] X.env = [(false, eval a X.env)] := by rfl) :
    PI X (.Tuple elts kk tpos) (.Call (.Name "enumerate" p) [a] [] pos) (tI (gx X) W (eEnum f)) := by
  refine ⟨fun pins s σ H R I h => ?_⟩
  refine Call_ (ld_blt I hg hm boot_enumerate (PyProof.Rows.callWith_type1 (thn ((pa_cons ha pa_nil hs).run pos pins s σ H (fun vs H1 => ∃ x F1 d items, vs = [x] ∧ Rep X.K H1 F1 x d ∧ enumD d = some items ∧ ∀ J, Wk X.K J H1 F1 items → R J H1) I
    (tD_imp (tI_D h) fun x H1 ⟨F1, d, items, q⟩ => ⟨x, F1, d, items, rfl, q⟩)) fun us s1 ⟨vs, H1, I1, r1, q1⟩ => ?_) hs rfl))
  obtain ⟨x, F1, d, items, rfl, r, ed, k⟩ := q1
  obtain ⟨u, rfl, ru⟩ := vals1 r1
  unfold enumD at ed
  split at ed
  · cases ed
    cases r with
    | @lst a xs ds fl q =>
      cases ru
      obtain ⟨its, rv, pl, hz⟩ := I1.list fl.sq
      refine call_enumerate_list pl.isList fun h' he hit hsz hk => wpAny_pyIter_enum he ?_
      have I2 : Inv X pins σ H1 { s1 with heap := h' } := I1.kept (t' := s1.toks) hk
      exact ⟨s1.heap.objs.size + 1, [s1.heap.objs.size + 1, s1.heap.objs.size], _, _, H1, rfl, I2, turn_enum a (s1.heap.objs.size + 1) s1.heap.objs.size, ⟨⟨.none, he⟩, hit, Nat.succ_ne_self _⟩, fun b hb => iterFp I1 (by simpa using hb), k _ (wk_enum fl q hz)⟩
  · cases ed
    cases r with
    | @tup a xs ds fl q =>
      cases ru
      obtain ⟨its, rv, pl, hz⟩ := I1.tuple fl.sq
      have pt : s1.heap.IsTuple a its.toArray := pl
      have hlt : a < s1.heap.objs.size := pl.lt
      refine vh_callEnumT pt fun h' he hit hsz hk => wpAny_pyIter_enum he ?_
      have I2 : Inv X pins σ H1 { s1 with heap := h' } := I1.kept (t' := s1.toks) hk
      exact ⟨s1.heap.objs.size + 1, [s1.heap.objs.size + 1, s1.heap.objs.size], _, _, H1, rfl, I2, turn_enumT a (s1.heap.objs.size + 1) s1.heap.objs.size xs.length, ⟨Nat.zero_le _, ⟨.none, he⟩, hit, Nat.succ_ne_self _, Nat.ne_of_lt (Nat.lt_succ_of_lt hlt), Nat.ne_of_lt hlt⟩, fun b hb => iterFp I1 (by simpa using hb), k _ (wk_enumT fl q hz)⟩
  · cases ed
/-! ### for -/
def loopS (tg : Tg) (body : En → Rs Fl) : List D → En → Rs Fl
  | [], env => .ok .nx env
  | d :: ds, env => match tg d env with
    | none => .bad
    | some env1 => match body env1 with
      | .ok .nx env2 => loopS tg body ds env2
      | .ok .cnt env2 => loopS tg body ds env2
      | .ok .brk env2 => .ok .nx env2
      | .ok (.ret o) env2 => .ok (.ret o) env2
      | .exc x env2 => .exc x env2
      | .bad => .bad
def sFor (fi : En → Rs (List D)) (tg : Tg) (body : En → Rs Fl) : En → Rs Fl := fun env₀ => (bnd fi fun items => loopS tg body items) env₀
theorem drop_at {α : Type} {l : List α} {i : Nat} (h : i < l.length) : l.drop i = l[i] :: l.drop (i + 1) := List.drop_eq_getElem_cons h
theorem psd_for {ix : List Nat} {t iter : Expr} {body : List Stmt} {fi : En → Rs (List D)} {tg : Tg} {fb : En → Rs Fl} (hp : PassesOwn (model X.prog X.w) X.A X.env X.xe) (hc : X.calm = true) (hi : PI X t iter (tI (gx X) W fi)) (hg : PG X t (tG (gx X) B ix tg)) (hb : PSs X body (tS (gx X) W B fb))
    (hs : ∀ x, foldedSetIterable iter X.env x = pure x := by intro _; rfl) : PS X (.For t iter body [] pos) (tS (gx X) W B (sFor fi tg fb)) := PS.imp (ps_for hp hc hi hg hb hs) fun N σ H ⟨p, env, F, fp, s, h⟩ => by
  refine ⟨env, F, fp, s, Out.mono (OutS.bind p h) fun items env1 H1 F1 fp1 t1 s1 h1 J wk => ?_⟩
  refine ⟨fun i m σ2 H2 => m = items.length - i ∧ i ≤ items.length ∧ Pin B.bs B.vs σ2 ∧ ∃ env2 F2 fp2, Sta X.K H2 F2 σ2 env2 fp2 ∧ Kp H1 F1 H2 F2 ∧ OutS (gx X) W B fp2 H2 F2 (loopS tg fb (items.drop i) env2) N,
    ⟨items.length, by simp, Nat.zero_le _, p, env1, F1, fp1, s1, .refl, by simpa using h1⟩, ?_⟩
  rintro i m σ2 H2 ⟨rfl, hi, p2, env2, F2, fp2, s2, sb, h2⟩
  by_cases hlt : i < items.length
  · have ei : items[i]? = some items[i] := List.getElem?_eq_getElem hlt
    obtain ⟨go, yl⟩ := wk.go H2 F2 sb i _ ei
    refine .inr ⟨go, fun σ3 H3 => Pin B.bs B.vs σ3 ∧ ∃ env3 F3 fp3, Sta X.K H3 F3 σ3 env3 fp3 ∧ Kp H1 F1 H3 F3 ∧ OutS (gx X) W B fp3 H3 F3 (loopS tg fb (items.drop (i + 1)) env3) N,
      fun σ3 H3 q => ⟨items.length - (i + 1), by omega, rfl, hlt, q⟩, fun x H' y => ?_⟩
    obtain ⟨F', n, r⟩ := yl x H' y
    rw [drop_at hlt] at h2
    unfold loopS at h2
    split at h2
    · exact h2.elim
    · rename_i env3 e3
      refine ⟨p2, env2, F', fp2, _, env3, n.sta s2, r, e3, fun σ4 H4 F4 fp4 p4 _ t4 s4 => ⟨p4, env3, F4, fp4, s4, ?_⟩⟩
      have sb4 : Kp H1 F1 H4 F4 := (sb.trans n.kp).trans (t4.kp (n.sta s2).re.nf)
      have t24 : Tr fp2 H2 F2 H4 F4 fp4 := n.tr.trans t4
      have next : ∀ env5, OutS (gx X) W B fp2 H2 F2 (loopS tg fb (items.drop (i + 1)) env5) N → ∀ σ5 H5 F5 fp5, Pin B.bs B.vs σ5 → Tr fp4 H4 F4 H5 F5 fp5 → Sta X.K H5 F5 σ5 env5 fp5 →
          Pin B.bs B.vs σ5 ∧ ∃ env3 F3 fp3, Sta X.K H5 F3 σ5 env3 fp3 ∧ Kp H1 F1 H5 F3 ∧ OutS (gx X) W B fp3 H5 F3 (loopS tg fb (items.drop (i + 1)) env3) N :=
        fun env5 h5 σ5 H5 F5 fp5 p5 t5 s5 => ⟨p5, env5, F5, fp5, s5, sb4.trans (t5.kp s4.re.nf), OutS.later (t24.trans t5) h5⟩
      cases eb : fb env3 with
      | ok fl env5 =>
        rw [eb] at h2
        cases fl with
        | nx => exact next env5 h2
        | cnt => exact next env5 h2
        | brk => exact fun σ5 H5 F5 fp5 p5 t5 s5 => h2 σ5 H5 F5 fp5 p5 (t24.trans t5) s5
        | ret o => exact fun σ5 H5 F5 fp5 v fr p5 t5 s5 => h2 σ5 H5 F5 fp5 v fr p5 (t24.trans t5) s5
      | exc x env5 => rw [eb] at h2; exact fun σ5 H5 F5 fp5 c o p5 t5 s5 => h2 σ5 H5 F5 fp5 c o p5 (t24.trans t5) s5
      | bad => rw [eb] at h2; exact h2
  · have e : i = items.length := by omega
    subst e
    refine .inl ⟨wk.stop H2 F2 sb _ (Nat.le_refl _), ?_⟩
    rw [List.drop_length] at h2
    exact h2 σ2 H2 F2 fp2 p2 .refl s2
end
end VH
set_option Elab.async false
set_option linter.all false
set_option maxRecDepth 100000
set_option maxHeartbeats 4000000
namespace VH
open PySem PySem.Spec PyProof.Rows L2

def dropE : List Nat → En → En
  | [], env => env
  | i :: ix, env => (dropE ix env).set i none
theorem dropE_length : ∀ {ix : List Nat} {env : En}, (dropE ix env).length = env.length
  | [], _ => rfl
  | i :: ix, env => by unfold dropE; rw [List.length_set, dropE_length]
theorem dropE_get {ix : List Nat} {env : En} {i : Nat} (h : i ∈ ix) : ∀ o, (dropE ix env)[i]? ≠ some (some o) := by
  intro o
  induction ix with
  | nil => cases h
  | cons j ix ih =>
    unfold dropE
    by_cases e : j = i
    · subst e
      by_cases hl : j < (dropE ix env).length
      · rw [List.getElem?_set_self hl]; intro q; cases q
      · rw [List.getElem?_eq_none (by rw [List.length_set]; omega)]; intro q; cases q
    · rw [List.getElem?_set_ne e]
      exact ih ((List.mem_cons.mp h).resolve_left fun q => e q.symm)
theorem set_over {α : Type} {l : List α} {i : Nat} {a : α} (h : ¬ i < l.length) : l.set i a = l := by
  apply List.ext_getElem?
  intro j
  by_cases e : i = j
  · subst e
    rw [List.getElem?_eq_none (by rw [List.length_set]; omega), List.getElem?_eq_none (by omega)]
  · rw [List.getElem?_set_ne e]
theorem REnv.drop {K : PySem.W.Frag} {H : Hp} {F : FA} {σ : Sg} {env : En} {fp : List Addr} (r : REnv K H F σ env fp) : ∀ ix : List Nat, ∃ fp', REnv K H F (wipe σ ix) (dropE ix env) fp' ∧ ∀ a ∈ fp', a ∈ fp
  | [] => ⟨fp, r, fun _ h => h⟩
  | i :: ix => by
    obtain ⟨fp1, r1, h1⟩ := REnv.drop r ix
    unfold wipe dropE
    by_cases hl : i < (dropE ix env).length
    · obtain ⟨v, o, f1, fr, e1, e2, rs, hm, hd, hk⟩ := r1.split i hl
      obtain ⟨fp', re, hm'⟩ := hk H F none none [] .refl (fun _ _ => ⟨rfl, id⟩) .no fun _ q => nomatch q
      exact ⟨fp', re, fun a q => h1 a ((hm a).mpr (.inr (((hm' a).mp q).resolve_left (by simp))))⟩
    · rw [set_over hl, set_over (by rw [r1.length]; exact hl)]
      exact ⟨fp1, r1, h1⟩
theorem REnv.slots {K : PySem.W.Frag} {H : Hp} {F : FA} : ∀ {σ σ' : Sg} {env : En} {fp : List Addr}, REnv K H F σ env fp → σ'.length = σ.length → (∀ (i : Nat) (o : O), env[i]? = some (some o) → σ'[i]? = σ[i]?) → REnv K H F σ' env fp
  | _, [], _, _, .nil, _, _ => .nil
  | _, _ :: _, _, _, .nil, h, _ => by cases h
  | _, [], _, _, .cons _ _ _, h, _ => by cases h
  | _, v' :: σ', _, _, .cons (v := v) (o := o) h t d, hl, k => by
    refine .cons ?_ (REnv.slots t (by simpa using hl) fun i o e => by simpa using k (i + 1) o (by simpa using e)) d
    cases h with
    | no => exact .no
    | yes r =>
      have e := k 0 _ rfl
      simp at e
      subst e
      exact .yes r
theorem wipe_wipe {σ : Sg} {ix : List Nat} : wipe (wipe σ ix) ix = wipe σ ix := by
  apply List.ext_getElem?
  intro j
  rw [wipe_get, wipe_get, wipe_length]
  split <;> rfl
theorem REnv.unwipe {K : PySem.W.Frag} {H : Hp} {F : FA} {σ : Sg} {env : En} {fp : List Addr} {ix : List Nat} (r : REnv K H F (wipe σ ix) env fp) (h : ∀ i ∈ ix, ∀ o, env[i]? ≠ some (some o)) : REnv K H F σ env fp :=
  r.slots (wipe_length σ ix).symm fun i o e => by
    rw [wipe_get, if_neg fun q => h i q.1 o e]
/-- the items of a list comprehension -/
def compM (tg : Tg) (ix : List Nat) (fc : En → Rs Bool) (fe : En → Rs D) : List D → En → Rs (List D)
  | [], env => .ok [] env
  | d :: ds, env => match tg d env with
    | none => .bad
    | some env1 => match fc env1 with
      | .ok b env2 => if b = true then (match fe env2 with
          | .ok y env3 => match compM tg ix fc fe ds (dropE ix env3) with
            | .ok ys e => .ok (y :: ys) e
            | _ => .bad
          | _ => .bad) else compM tg ix fc fe ds (dropE ix env2)
      | _ => .bad
def oComp (fi : En → Rs (List D)) (tg : Tg) (ix : List Nat) (fc : En → Rs Bool) (fe : En → Rs D) : En → Rs O := fun env₀ => (bnd fi fun items env => match compM tg ix fc fe items (dropE ix env) with
  | .ok ys e => .ok (.lst ys) e
  | _ => .bad) env₀
abbrev W0 : WX := fun _ _ _ _ => False
abbrev B0 : Bx := ⟨[], []⟩
theorem pin0 {σ : Sg} : Pin B0.bs B0.vs σ := fun i v e => by simp [B0] at e
section
variable {X : Cx} {W : WX} {B : Bx} {pos : Pos}
theorem PTs.imp {ifs : List Expr} {t t' : TT} (h : PTs X ifs t) (k : ∀ σ H Q, t' σ H Q → t σ H Q) : PTs X ifs t' := ⟨fun pins s σ H Q I w => h.run pins s σ H Q I (k σ H Q w)⟩
theorem ptsd_nil : PTs X [] (tT (gx X) W (ret true)) := PTs.imp pts_nil fun σ H Q ⟨env, F, fp, s, h⟩ => h H F fp .refl s
theorem ptsd_one {c : Expr} {f : En → Rs Bool} (h : PT X c (tT (gx X) W f)) : PTs X [c] (tT (gx X) W f) := pts_one h
theorem lc_read {fi : En → Rs (List D)} {tg : Tg} {ix : List Nat} {fc : En → Rs Bool} {fe : En → Rs D} {G : Gx} {σ : Sg} {H : Hp} {Q : VK} (h : tO G W (oComp fi tg ix fc fe) σ H Q) :
    tLc (tI G W fi) (tG G B0 ix tg) (tT G W0 fc) (tD G W0 fe) ix σ H Q := by
  obtain ⟨env, F, fp, st, h⟩ := h
  refine ⟨env, F, fp, st, Out.mono (OutO.bind h) fun items env1 H1 F1 fp1 t1 s1 h1 J wk Dd nD => ?_⟩
  have h1 : OutO G W σ fp1 H1 F1 (match compM tg ix fc fe items (dropE ix env1) with
    | .ok ys e => .ok (.lst ys) e
    | _ => .bad) fun _ _ H' _ _ v _ => Q v H' := h1
  cases ec : compM tg ix fc fe items (dropE ix env1) with
  | exc x e => rw [ec] at h1; exact h1.elim
  | bad => rw [ec] at h1; exact h1.elim
  | ok ys0 envf =>
    rw [ec] at h1
    obtain ⟨z1, z2, z3, z4, z5⟩ := own_new (ob := .lst []) s1 nD
    obtain ⟨fpd, red, hmd⟩ := z2.re.drop ix
    refine ⟨fun i m H2 => m = items.length - i ∧ i ≤ items.length ∧ ∃ env2 F2 fp2 accV accD ys, Sta G.K H2 F2 (wipe σ ix) env2 fp2 ∧ Kp H1 F1 H2 F2 ∧ Tr fp1 H1 F1 H2 F2 fp2 ∧ H2 Dd = some (.lst accV) ∧ ¬ F2 Dd ∧ Dd ∉ fp2 ∧ RepA G.K H2 F2 accV accD ∧ accD.length ≤ i ∧
      compM tg ix fc fe (items.drop i) env2 = .ok ys envf ∧ accD ++ ys = ys0 ∧ ∀ i ∈ ix, ∀ o, env2[i]? ≠ some (some o), ⟨items.length, by simp, Nat.zero_le _, dropE ix env1, F1, fpd, [], [], ys0, ⟨red, z2.fo⟩, own_new_kp nD, ?_, upd_same, z3, ?_, .nil, Nat.zero_le _, by simpa using ec, rfl, fun i h o => dropE_get h o⟩, ?_⟩
    · exact z1.less fun a q => List.mem_append_right _ (hmd a q)
    · exact fun q => z4 Dd (List.mem_singleton.mpr rfl) (hmd Dd q)
    rintro i m H2 ⟨rfl, hi, env2, F2, fp2, accV, accD, ys, s2, sb, t2, hD, nF, nfp, ra, hal, em, ea, hdrop⟩
    by_cases hlt : i < items.length
    · have ei : items[i]? = some items[i] := List.getElem?_eq_getElem hlt
      obtain ⟨go, yl⟩ := wk.go H2 F2 sb i _ ei
      refine .inr ⟨go, fun H3 => ∃ env2 F3 fp3 accV accD ys, Sta G.K H3 F3 (wipe σ ix) env2 fp3 ∧ Kp H1 F1 H3 F3 ∧ Tr fp1 H1 F1 H3 F3 fp3 ∧ H3 Dd = some (.lst accV) ∧ ¬ F3 Dd ∧ Dd ∉ fp3 ∧ RepA G.K H3 F3 accV accD ∧ accD.length ≤ i + 1 ∧
        compM tg ix fc fe (items.drop (i + 1)) env2 = .ok ys envf ∧ accD ++ ys = ys0 ∧ ∀ i ∈ ix, ∀ o, env2[i]? ≠ some (some o), fun H3 q => ⟨items.length - (i + 1), by omega, rfl, hlt, q⟩, fun x H' y => ?_⟩
      obtain ⟨F', n, r⟩ := yl x H' y
      rw [drop_at hlt] at em
      unfold compM at em
      split at em
      · cases em
      · rename_i env3 e3
        refine ⟨pin0, env2, F', fp2, _, env3, n.sta s2, r, e3, fun σ4 H4 F4 fp4 _ w4 t4 s4 => ⟨by rw [w4, wipe_wipe], ?_⟩⟩
        rw [wipe_wipe] at w4
        have t24 : Tr fp2 H2 F2 H4 F4 fp4 := n.tr.trans t4
        refine ⟨env3, F4, fp4, s4, ?_⟩
        -- what is kept of the new list through a step that starts from where it stands
        have keepD : ∀ {H5 F5 fp5}, Tr fp2 H2 F2 H5 F5 fp5 → H5 Dd = some (.lst accV) ∧ ¬ F5 Dd ∧ Dd ∉ fp5 ∧ RepA G.K H5 F5 accV accD ∧ Kp H1 F1 H5 F5 ∧ Tr fp1 H1 F1 H5 F5 fp5 := fun {H5 F5 fp5} t5 => by
          obtain ⟨a1, a2⟩ := t5.keep Dd _ hD nfp
          refine ⟨a1, fun q => nF (a2 q), fun q => ?_, ra.mono (t5.stb s2.re.nf), sb.trans (t5.kp s2.re.nf), t2.trans t5⟩
          rcases t5.new Dd q with z | z
          · exact nfp z
          · rw [hD] at z; cases z
        cases efc : fc env3 with
        | exc x e => rw [efc] at em; cases em
        | bad => rw [efc] at em; cases em
        | ok b env5 =>
          rw [efc] at em
          dsimp only at em
          intro H5 F5 fp5 t5 s5
          cases b with
          | false =>
            rw [if_neg Bool.false_ne_true] at em
            refine iteF ?_
            obtain ⟨k1, k2, k3, k4, k5, k6⟩ := keepD (t24.trans t5)
            obtain ⟨fp6, re6, hm6⟩ := s5.re.drop ix
            rw [w4] at re6
            exact ⟨dropE ix env5, F5, fp6, accV, accD, ys, ⟨re6, s5.fo⟩, k5, k6.less hm6, k1, k2, fun q => k3 (hm6 Dd q), k4, by omega, em, ea, fun i h o => dropE_get h o⟩
          | true =>
            rw [if_pos rfl] at em
            refine iteT ⟨env5, F5, fp5, s5, ?_⟩
            cases efe : fe env5 with
            | exc x e => rw [efe] at em; cases em
            | bad => rw [efe] at em; cases em
            | ok y env6 =>
              rw [efe] at em
              dsimp only at em
              intro H6 F6 fp6 t6 s6 v rv
              obtain ⟨k1, k2, k3, k4, k5, k6⟩ := keepD ((t24.trans t5).trans t6)
              cases ecm : compM tg ix fc fe (items.drop (i + 1)) (dropE ix env6) with
              | exc x e => rw [ecm] at em; cases em
              | bad => rw [ecm] at em; cases em
              | ok ys7 env7 =>
                rw [ecm] at em
                cases em
                refine ⟨accV, k1, ?_, ?_⟩
                · rw [ra.length]
                  have := wk.len
                  omega
                · obtain ⟨u1, u2, u3⟩ := own_write (ob := .lst (accV ++ [v])) s6 k3 k2 ⟨_, k1⟩
                  obtain ⟨fp8, re8, hm8⟩ := u2.re.drop ix
                  rw [w4] at re8
                  refine ⟨dropE ix env6, F6, fp8, accV ++ [v], accD ++ [y], ys7, ⟨re8, u2.fo⟩, k5.trans (own_write_kp k2), ?_, upd_same, k2, fun q => k3 (hm8 Dd q), (k4.mono u3).append (.cons (rv.mono u3) .nil), by rw [List.length_append]; simp; omega, ecm, by rw [List.append_assoc]; exact ea, fun i h o => dropE_get h o⟩
                  refine ⟨fun a u e n => ?_, k6.froz, fun a q => k6.new a (hm8 a q)⟩
                  obtain ⟨e1, f1⟩ := k6.keep a u e n
                  have na : a ≠ Dd := fun z => by rw [z, nD] at e; cases e
                  exact ⟨by rw [upd_ne na]; exact e1, f1⟩
    · have e : i = items.length := by omega
      subst e
      refine .inl ⟨wk.stop H2 F2 sb _ (Nat.le_refl _), ?_⟩
      rw [List.drop_length] at em
      unfold compM at em
      cases em
      rw [List.append_nil] at ea
      subst ea
      refine h1 H2 F2 fp2 (.ref Dd) [Dd] ⟨fun a u e n => t2.keep a u e n, t2.froz, fun a q => ?_⟩ ⟨s2.re.unwipe hdrop, s2.fo⟩ (.lst hD nF ra) fun a q => by rw [List.mem_singleton.mp q]; exact nfp
      rcases List.mem_append.mp q with q | q
      · rw [List.mem_singleton.mp q]; exact .inr nD
      · exact t2.new a q
theorem po_comp {elt t iter : Expr} {ifs : List Expr} {scope : Scope} {own : List (Str × Nat)} {fi : En → Rs (List D)} {tg : Tg} {fc : En → Rs Bool} {fe : En → Rs D} (hc : X.calm = true) (hN : X.N.Nodup) (hi : PI X t iter (tI (gx X) W fi)) (ok : BlkOk X.N X.env.scope scope own)
    (hg : ∀ (s : Shared) (H : Hp) (C : Addr) (cl : List (Str × Addr)) (fp : List Addr), PG (X.blk s H scope (compEnvC scope cl C X.env) fp) t (tG (gx X) B0 (own.map (·.2)) tg))
    (ht : ∀ (s : Shared) (H : Hp) (C : Addr) (cl : List (Str × Addr)) (fp : List Addr), PTs (X.blk s H scope (compEnvC scope cl C X.env) fp) ifs (tT (gx X) W0 fc))
    (he : ∀ (s : Shared) (H : Hp) (C : Addr) (cl : List (Str × Addr)) (fp : List Addr), PE (X.blk s H scope (compEnvC scope cl C X.env) fp) elt (tD (gx X) W0 fe)) (hs : ∀ x, foldedSetIterable iter X.env x = pure x := by intro _; rfl) :
    PE X (.ListComp elt [⟨t, iter, ifs, 0⟩] scope pos) (tO (gx X) W (oComp fi tg (own.map (·.2)) fc fe)) := PE.imp (pe_lc hc hN hi ok hg ht he hs) fun σ H Q h => lc_read h
theorem psd_setLc {i : Nat} {y : Str} {py spos : Pos} {elt t iter : Expr} {ifs : List Expr} {scope : Scope} {own : List (Str × Nat)} {fi : En → Rs (List D)} {tg : Tg} {fc : En → Rs Bool} {fe : En → Rs D} (hc : X.calm = true) (hN : X.N.Nodup) (hyl : X.env.scope.names.lookup y = some .local) (hb : B.bs[i]? ≠ some true)
    (hsw : swapsWith (.ListComp elt [⟨t, iter, ifs, 0⟩] scope pos) (some (.Name y py)) spos.line X.env = pure true) (hi : PI X t iter (tI (gx X) W fi)) (ok : BlkOk X.N X.env.scope scope own)
    (hg : ∀ (s : Shared) (H : Hp) (C : Addr) (cl : List (Str × Addr)) (fp : List Addr), PG (X.blk s H scope (compEnvC scope cl C X.env) fp) t (tG (gx X) B0 (own.map (·.2)) tg))
    (ht : ∀ (s : Shared) (H : Hp) (C : Addr) (cl : List (Str × Addr)) (fp : List Addr), PTs (X.blk s H scope (compEnvC scope cl C X.env) fp) ifs (tT (gx X) W0 fc))
    (he : ∀ (s : Shared) (H : Hp) (C : Addr) (cl : List (Str × Addr)) (fp : List Addr), PE (X.blk s H scope (compEnvC scope cl C X.env) fp) elt (tD (gx X) W0 fe)) (hy : X.N[i]? = some y := by rfl) (hs : ∀ x, foldedSetIterable iter X.env x = pure x := by intro _; rfl) :
    PS X (.Assign [.Name y py] (.ListComp elt [⟨t, iter, ifs, 0⟩] scope pos) spos) (tS (gx X) W B (sSet i (oComp fi tg (own.map (·.2)) fc fe))) := PS.imp (ps_setLc hc hN hy hyl hsw hi ok hg ht he hs) fun N σ H ⟨p, env, F, fp, s, h⟩ => by
  refine lc_read (W := W) (Q := fun v H1 => N.nx (σ.set i (some v)) H1) ⟨env, F, fp, s, ?_⟩
  refine OutO.mono (OutS.bindO p h) fun o env1 H1 F1 fp1 v fr t1 s1 r d h1 => ?_
  split at h1
  · rename_i hi
    obtain ⟨fp', re, hm⟩ := put_slot s1.re hi r d
    exact h1 (σ.set i (some v)) H1 F1 fp' (p.set hb) (Tr.refl.less hm) ⟨re, s1.fo⟩
  · exact h1.elim
end
end VH
set_option Elab.async false
set_option linter.all false
set_option maxRecDepth 100000
set_option maxHeartbeats 4000000
namespace VH
open PySem PySem.Spec PyProof.Rows L2

/-! ### what a def of the text is worth -/
def spO (G : Gx) (bs : List Bool) (run : List O → Rs O) : Sp := fun vs H Q E => vs.length = bs.length ∧ ∃ os F fp, os.length = vs.length ∧ REnv G.K H F (vs.map some) (os.map some) fp ∧ Fo H F ∧ match run os with
  | .ok r outs => ∀ v H' F' fr fp', Tr fp H F H' F' (fr ++ fp') → REnv G.K H' F' (vs.map some) outs fp' → Fo H' F' → RO G.K H' F' v r fr → Dj fr fp' → Q v H'
  | .exc x outs => ∀ c o H' F' fp', Tr fp H F H' F' fp' → REnv G.K H' F' (vs.map some) outs fp' → Fo H' F' → RX G H' F' c o x → E c o H'
  | .bad => False
def mask : List Bool → En → En
  | [], _ => []
  | _ :: bs, [] => none :: mask bs []
  | b :: bs, o :: env => (if b = true then o else none) :: mask bs env
def fnRun (bs : List Bool) (tot : Nat) (body : En → Rs Fl) (os : List O) : Rs O := match body (os.map some ++ List.replicate (tot - os.length) none) with
  | .ok (.ret o) env => .ok o (mask bs env)
  | .ok .nx env => .ok (.sh .none) (mask bs env)
  | .ok _ _ => .bad
  | .exc x env => .exc x (mask bs env)
  | .bad => .bad
theorem REnv.nones {K : PySem.W.Frag} {H : Hp} {F : FA} : ∀ (n : Nat), REnv K H F (List.replicate n none) (List.replicate n none) []
  | 0 => .nil
  | n + 1 => .cons (f1 := []) .no (REnv.nones n) fun _ q => nomatch q
theorem REnv.more {K : PySem.W.Frag} {H : Hp} {F : FA} (n : Nat) : ∀ {σ : Sg} {env : En} {fp : List Addr}, REnv K H F σ env fp → REnv K H F (σ ++ List.replicate n none) (env ++ List.replicate n none) fp
  | _, _, _, .nil => REnv.nones n
  | _, _, _, .cons h t d => .cons h (REnv.more n t) d
theorem REnv.mask {K : PySem.W.Frag} {H : Hp} {F : FA} : ∀ {bs : List Bool} {vs : List V} {σ : Sg} {env : En} {fp : List Addr}, REnv K H F σ env fp → Pin bs vs σ → vs.length = bs.length → ∃ fp', REnv K H F (vs.map some) (VH.mask bs env) fp' ∧ ∀ a ∈ fp', a ∈ fp
  | [], [], _, _, _, _, _, _ => ⟨[], .nil, fun _ q => nomatch q⟩
  | [], _ :: _, _, _, _, _, _, h => by cases h
  | _ :: _, [], _, _, _, _, _, h => by cases h
  | b :: bs, v :: vs, _, _, _, .nil, p, h => by
    obtain ⟨fp', r, k⟩ := REnv.mask (bs := bs) (vs := vs) (K := K) (H := H) (F := F) .nil (fun i v e1 e2 => by have := p (i + 1) v e1 e2; simp at this) (by simpa using h)
    exact ⟨[] ++ fp', .cons (f1 := []) .no r (fun _ q => nomatch q), k⟩
  | b :: bs, v :: vs, w :: σ, _, _, .cons (o := o) (f1 := f1) (f2 := f2) rs t d, p, h => by
    obtain ⟨fp', r, k⟩ := REnv.mask (bs := bs) (vs := vs) t (fun i v e1 e2 => by have := p (i + 1) v e1 e2; simpa using this) (by simpa using h)
    cases b with
    | false => exact ⟨[] ++ fp', .cons (f1 := []) .no r (fun _ q => nomatch q), fun a q => List.mem_append_right _ (k a q)⟩
    | true =>
      have e := p 0 v rfl rfl
      have e : w = some v := by simpa using e
      subst e
      refine ⟨f1 ++ fp', .cons rs r fun a q z => d a q (k a z), fun a q => ?_⟩
      rcases List.mem_append.mp q with q | q
      · exact List.mem_append_left _ q
      · exact List.mem_append_right _ (k a q)
section
variable {P : Program} {w : World} {K : PySem.W.Frag} {mg : Str → Option Value} {base : Heap}
theorem pin_start {N : List Str} {bs : List Bool} {vs : List V} : Pin bs vs (L2.start N vs) := fun i v _ e => by
  have hi : i < vs.length := (List.getElem?_eq_some_iff.mp e).1
  unfold L2.start
  rw [List.getElem?_append_left (by simpa using hi), List.getElem?_map, e]
  rfl
/-- THE RULE for a def of the text -/
theorem fnD {x qual : Str} {st : Stmt} {f : Addr} {fd : FuncData} {N ps : List Str} {k tot : Nat} {bs : List Bool} {body : En → Rs Fl} {run : List O → Rs O} (F : Fun K x qual st f fd) (S : FnScope N ps (defScope st)) (hl : ps.length = bs.length) (hN : N.length = tot)
    (hrun : ∀ os, os.length = bs.length → run os ≠ .bad → fnRun bs tot body os = run os)
    (hb : ∀ (cdv : Value) (A : Around) (outer : List Env) (s : Shared) (H : Hp) (vs : List V) (E : XK), Room k (A.deeper (envOfC qual (defScope st) s.heap.objs.size f cdv)) →
      PSs (cxOf (L2.CX P w) P w K mg base N qual (defScope st) f cdv A outer s H E) (defBody st) (tS ⟨K, mg⟩ (fun c d _ H => E c d H) ⟨bs, vs⟩ body)) : FnOk P w K mg base (L2.CX P w) (k + 1) f fd ps (spO ⟨K, mg⟩ bs run) := by
  refine F.okX S (fun vs H Q E h => h.1.trans hl.symm) fun cdv A outer s H vs Q E hr h => ⟨_, hb cdv A outer s H vs E hr, ?_⟩
  obtain ⟨hv, os, F0, fp, ho, re, fo, h⟩ := h
  refine ⟨pin_start, os.map some ++ List.replicate (tot - os.length) none, F0, fp, ⟨?_, fo⟩, ?_⟩
  · unfold L2.start
    rw [hN, ← ho]
    exact re.more _
  · have e := hrun os (ho.trans hv) (fun q => by rw [q] at h; exact h)
    rw [← e] at h
    unfold fnRun at h
    cases eb : body (os.map some ++ List.replicate (tot - os.length) none) with
    | ok fl env =>
      rw [eb] at h
      cases fl with
      | nx =>
        intro σ' H' F' fp' p t s'
        obtain ⟨fp2, r2, k2⟩ := s'.re.mask p hv
        exact h .non H' F' [] fp2 (t.less fun a q => k2 a (by simpa using q)) r2 s'.fo (.sh .non) fun _ q => nomatch q
      | ret o =>
        intro σ' H' F' fp' v fr p t s' r d
        obtain ⟨fp2, r2, k2⟩ := s'.re.mask p hv
        exact h v H' F' fr fp2 (t.less fun a q => (List.mem_append.mp q).elim (fun q => List.mem_append_left _ q) fun q => List.mem_append_right _ (k2 a q)) r2 s'.fo r fun a q z => d a q (k2 a z)
      | brk => exact h.elim
      | cnt => exact h.elim
    | exc x env =>
      rw [eb] at h
      intro σ' H' F' fp' c o p t s' rx
      obtain ⟨fp2, r2, k2⟩ := s'.re.mask p hv
      exact h c o H' F' fp2 (t.less k2) r2 s'.fo rx
    | bad => rw [eb] at h; exact h.elim
/-- a def that stands in the module -/
structure FnG (P : Program) (w : World) (K : PySem.W.Frag) (mg : Str → Option Value) (base : Heap) (k : Nat) (x : Str) (bs : List Bool) (run : List O → Rs O) : Prop where
  ex : ∃ f fd ps, FnOk P w K mg base (L2.CX P w) k f fd ps (spO ⟨K, mg⟩ bs run) ∧ mg x = some (.ref f) ∧ PySem.W.keepIn K (.ref f) = true ∧ Binds K fd ps []
end
/-! ### calls -/
abbrev Ar := Sum O Nat
def aNil : En → Rs (List Ar) := fun env₀ => (ret []) env₀
def aVal (f : En → Rs D) (g : En → Rs (List Ar)) : En → Rs (List Ar) := fun env₀ => (bnd f fun d => bnd g fun as => ret (.inl (.sh d) :: as)) env₀
def aBor (i : Nat) (g : En → Rs (List Ar)) : En → Rs (List Ar) := fun env => match env[i]? with
  | some (some _) => bnd g (fun as => ret (.inr i :: as)) env
  | _ => .bad
def takeA : List Ar → En → Option (List O × En)
  | [], env => some ([], env)
  | .inl o :: r, env => match takeA r env with
    | some (os, e) => some (o :: os, e)
    | none => none
  | .inr i :: r, env => match env[i]? with
    | some (some o) => match takeA r (env.set i none) with
      | some (os, e) => some (o :: os, e)
      | none => none
    | _ => none
def putA : List Ar → En → En → En
  | .inr i :: r, o :: os, env => putA r os (env.set i o)
  | .inl _ :: r, _ :: os, env => putA r os env
  | _, _, env => env
def eCallU (run : List O → Rs O) (fa : En → Rs (List Ar)) : En → Rs O := fun env₀ => (bnd fa fun as env => match takeA as env with
  | none => .bad
  | some (os, env1) => match run os with
    | .ok r outs => .ok r (putA as outs env1)
    | .exc x outs => .exc x (putA as outs env1)
    | .bad => .bad) env₀
inductive AR (K : PySem.W.Frag) (H : Hp) (F : FA) (σ : Sg) : List V → List Ar → Prop
  | nil : AR K H F σ [] []
  | val {v : V} {o : O} {vs : List V} {as : List Ar} : RO K H F v o [] → AR K H F σ vs as → AR K H F σ (v :: vs) (.inl o :: as)
  | bor {v : V} {i : Nat} {vs : List V} {as : List Ar} : σ[i]? = some (some v) → AR K H F σ vs as → AR K H F σ (v :: vs) (.inr i :: as)
def tArg (G : Gx) (W : WX) (f : En → Rs (List Ar)) : TA := fun σ H Q => ∃ env F fp, Sta G.K H F σ env fp ∧ Out G W σ fp H F (f env) fun as _ H' F' _ => ∀ vs, AR G.K H' F' σ vs as → Q vs H'
theorem AR.length {K : PySem.W.Frag} {H : Hp} {F : FA} {σ : Sg} : ∀ {vs : List V} {as : List Ar}, AR K H F σ vs as → vs.length = as.length
  | _, _, .nil => rfl
  | _, _, .val _ t => by rw [List.length_cons, List.length_cons, AR.length t]
  | _, _, .bor _ t => by rw [List.length_cons, List.length_cons, AR.length t]
theorem takeA_len : ∀ {as : List Ar} {env env1 : En} {os : List O}, takeA as env = some (os, env1) → os.length = as.length
  | [], _, _, _, e => by cases e; rfl
  | .inl o :: r, env, env1, os, e => by
    unfold takeA at e
    split at e
    · rename_i q; cases e; rw [List.length_cons, List.length_cons, takeA_len q]
    · cases e
  | .inr i :: r, env, env1, os, e => by
    unfold takeA at e
    split at e
    · split at e
      · rename_i q; cases e; rw [List.length_cons, List.length_cons, takeA_len q]
      · cases e
    · cases e
theorem take_args {K : PySem.W.Frag} {H : Hp} {F : FA} {σ : Sg} : ∀ {as : List Ar} {vs : List V} {env env1 : En} {os : List O} {fp : List Addr}, REnv K H F σ env fp → AR K H F σ vs as → takeA as env = some (os, env1) →
    ∃ fa fr, REnv K H F (vs.map some) (os.map some) fa ∧ REnv K H F σ env1 fr ∧ Dj fa fr ∧ ∀ a, a ∈ fp ↔ a ∈ fa ∨ a ∈ fr
  | [], _, env, env1, os, fp, re, .nil, e => by cases e; exact ⟨[], fp, .nil, re, (fun _ q => nomatch q), fun a => by simp⟩
  | .inl o :: r, _, env, env1, os, fp, re, .val h t, e => by
    unfold takeA at e
    split at e
    · rename_i q
      cases e
      obtain ⟨fa, fr, r1, r2, d, m⟩ := take_args re t q
      exact ⟨[] ++ fa, fr, .cons (f1 := []) (.yes h) r1 (fun _ q => nomatch q), r2, d, m⟩
    · cases e
  | .inr i :: r, _, env, env1, os, fp, re, .bor (v := v0) h t, e => by
    unfold takeA at e
    split at e
    · rename_i o he
      split at e
      · rename_i q
        cases e
        obtain ⟨v, f1, fp', e1, ro, re', hm, hd⟩ := take_slot re he
        rw [h] at e1
        cases e1
        obtain ⟨fa, fr, r1, r2, d, m⟩ := take_args re' t q
        refine ⟨f1 ++ fa, fr, .cons (.yes ro) r1 (fun a q z => hd a q ((m a).mpr (.inl z))), r2, fun a q z => ?_, fun a => ?_⟩
        · rcases List.mem_append.mp q with q | q
          · exact hd a q ((m a).mpr (.inr z))
          · exact d a q z
        · rw [hm a, m a, List.mem_append, or_assoc]
      · cases e
    · cases e
theorem put_args {K : PySem.W.Frag} {H : Hp} {F : FA} {σ : Sg} : ∀ {as : List Ar} {vs : List V} {env : En} {outs : En} {fa fr : List Addr} {H0 : Hp} {F0 : FA}, REnv K H F σ env fr → AR K H0 F0 σ vs as → REnv K H F (vs.map some) outs fa → Dj fa fr →
    ∃ fp', REnv K H F σ (putA as outs env) fp' ∧ ∀ a ∈ fp', a ∈ fa ∨ a ∈ fr
  | [], _, env, outs, fa, fr, _, _, re, .nil, ro, d => ⟨fr, by unfold putA; exact re, fun a q => .inr q⟩
  | .inl o :: r, _, env, outs, fa, fr, _, _, re, .val h t, ro, d => by
    cases ro with
    | @cons _ o2 _ env2 g1 g2 rs rt dj =>
      obtain ⟨fp', r1, m⟩ := put_args re t rt fun a q z => d a (List.mem_append_right _ q) z
      exact ⟨fp', by unfold putA; exact r1, fun a q => (m a q).imp (fun z => List.mem_append_right _ z) id⟩
  | .inr i :: r, _, env, outs, fa, fr, _, _, re, .bor (v := v) h t, ro, d => by
    cases ro with
    | @cons _ o2 _ env2 g1 g2 rs rt dj =>
      have hi : i < env.length := by rw [← re.length]; exact (List.getElem?_eq_some_iff.mp h).1
      obtain ⟨v0, o0, f1, f2, e1, e2, rs0, hm, hd, hk⟩ := re.split i hi
      obtain ⟨fp1, re1, hm1⟩ := hk H F (some v) o2 g1 .refl (fun _ _ => ⟨rfl, id⟩) rs fun a q z => d a (List.mem_append_left _ q) ((hm a).mpr (.inr z))
      rw [set_get h] at re1
      obtain ⟨fp', r1, m⟩ := put_args re1 t rt fun a q z => by
        rcases (hm1 a).mp z with z | z
        · exact dj a z q
        · exact d a (List.mem_append_right _ q) ((hm a).mpr (.inr z))
      refine ⟨fp', by unfold putA; exact r1, fun a q => ?_⟩
      rcases m a q with z | z
      · exact .inl (List.mem_append_right _ z)
      · rcases (hm1 a).mp z with z | z
        · exact .inl (List.mem_append_left _ z)
        · exact .inr ((hm a).mpr (.inr z))
section
variable {X : Cx} {W : WX} {B : Bx} {e : Expr} {es : List Expr} {pos : Pos}
theorem paa_nil : PA X [] (tArg (gx X) W aNil) := PA.imp pa_nil fun σ H Q ⟨env, F, fp, st, h⟩ => h H F fp .refl st _ .nil
theorem AR.mono {K : PySem.W.Frag} {H H' : Hp} {F F' : FA} {σ : Sg} (s : Stb H F H' F') : ∀ {vs : List V} {as : List Ar}, AR K H F σ vs as → AR K H' F' σ vs as
  | _, _, .nil => .nil
  | _, _, .val h t => .val (h.mono s fun _ q => nomatch q) (AR.mono s t)
  | _, _, .bor h t => .bor h (AR.mono s t)
theorem paa_val {f : En → Rs D} {g : En → Rs (List Ar)} (ha : PE X e (tD (gx X) W f)) (hr : PA X es (tArg (gx X) W g)) (hs : starEach (e :: es) X.env = (false, eval e X.env) :: starEach es X.env := by rfl) : PA X (e :: es) (tArg (gx X) W (aVal f g)) := PA.imp (pa_cons ha hr hs) fun σ H Q h => by
  obtain ⟨env, F, fp, st, h⟩ := h
  refine ⟨env, F, fp, st, Out.mono h.bind fun d env1 H1 F1 fp1 t1 s1 h1 v r => ?_⟩
  refine ⟨env1, F1, fp1, s1, Out.mono h1.bind fun ds env2 H2 F2 fp2 t2 s2 h2 vs rs => ?_⟩
  exact h2 H2 F2 fp2 .refl s2 _ (.val (.sh (r.tr s1.re t2)) rs)
theorem paa_bor (i : Nat) {g : En → Rs (List Ar)} {x : Str} {p : Pos} (hr : PA X es (tArg (gx X) W g)) (hN : X.N[i]? = some x := by rfl) (hv : Vis X.env.scope x := by first | exact Or.inl rfl | exact Or.inr (Or.inl rfl) | exact Or.inr (Or.inr rfl)) (hd : (x == ("__debug__" : Str)) = false := by decide)
    (hcd : (x == ("__classdict__" : Str)) = false := by decide) (hs : starEach (.Name x p :: es) X.env = (false, eval (.Name x p) X.env) :: starEach es X.env := by rfl) : PA X (.Name x p :: es) (tArg (gx X) W (aBor i g)) := PA.imp (pa_cons (pe_var hN hv hd hcd) hr hs) fun σ H Q ⟨env, F, fp, st, h⟩ => by
  unfold aBor at h
  split at h
  · rename_i o he
    obtain ⟨v, f1, fr, e1, r, hm, hd, hk⟩ := pv_of st.re he
    refine ⟨v, e1, env, F, fp, st, Out.mono h.bind fun as env2 H2 F2 fp2 t2 s2 h2 vs rs => ?_⟩
    exact h2 H2 F2 fp2 .refl s2 _ (.bor e1 rs)
  · exact h.elim
theorem call_read {bs : List Bool} {run : List O → Rs O} {fa : En → Rs (List Ar)} {σ : Sg} {H : Hp} {Q : VK} (hn : ∀ vs as K H F σ, AR K H F σ vs as → True) (h : tO (gx X) W (eCallU run fa) σ H Q) (hl : ∀ env as env', fa env = .ok as env' → as.length = bs.length) :
    tArg (gx X) W fa σ H fun vs H1 => spO (gx X) bs run (vs ++ []) H1 Q (WE W σ) := by
  obtain ⟨env, F, fp, st, h⟩ := h
  refine ⟨env, F, fp, st, ?_⟩
  have hb := OutO.bind h
  cases ef : fa env with
  | exc x env1 => rw [ef] at hb; exact hb
  | bad => rw [ef] at hb; exact hb
  | ok as env1 =>
    rw [ef] at hb
    intro H1 F1 fp1 t1 s1 vs ar
    have h1 := hb H1 F1 fp1 t1 s1
    dsimp only at h1
    rw [List.append_nil]
    cases et : takeA as env1 with
    | none => rw [et] at h1; exact h1.elim
    | some pr =>
      obtain ⟨os, env2⟩ := pr
      rw [et] at h1
      dsimp only at h1
      obtain ⟨fa', fr, r1, r2, d, m⟩ := take_args s1.re ar et
      refine ⟨ar.length.trans (hl env as env1 ef), os, F1, fa', by rw [takeA_len et, ar.length], r1, s1.fo, ?_⟩
      have stay : ∀ {H' F' g}, Tr fa' H1 F1 H' F' g → REnv X.K H' F' σ env2 fr := fun {H' F' g} t => r2.mono (t.stb fun a q => (r1.trk a q).2) fun a q => by
        obtain ⟨⟨u, eu⟩, nf⟩ := r2.trk a q
        obtain ⟨k1, k2⟩ := t.keep a u eu fun z => d a z q
        exact ⟨k1.trans eu.symm, k2⟩
      have apart : ∀ {H' F' g}, Tr fa' H1 F1 H' F' g → Dj g fr := fun {H' F' g} t a q z => by
        rcases t.new a q with w | w
        · exact d a w z
        · obtain ⟨⟨u, eu⟩, _⟩ := r2.trk a z
          rw [w] at eu; cases eu
      cases er : run os with
      | ok r outs =>
        rw [er] at h1
        intro v H' F' frr fp' t ro fo rr dj
        have dfr := apart t
        obtain ⟨fp2, r3, m3⟩ := put_args (stay t) ar ro fun a q => dfr a (List.mem_append_right _ q)
        refine h1 H' F' fp2 v frr ⟨fun a u e n => t.keep a u e fun q => n ((m a).mpr (.inl q)), t.froz, fun a q => ?_⟩ ⟨r3, fo⟩ rr fun a q z => ?_
        · rcases List.mem_append.mp q with q | q
          · exact (t.new a (List.mem_append_left _ q)).imp (fun z => (m a).mpr (.inl z)) id
          · rcases m3 a q with q | q
            · exact (t.new a (List.mem_append_right _ q)).imp (fun z => (m a).mpr (.inl z)) id
            · exact .inl ((m a).mpr (.inr q))
        · rcases m3 a z with z | z
          · exact dj a q z
          · exact dfr a (List.mem_append_left _ q) z
      | exc x outs =>
        rw [er] at h1
        intro c o H' F' fp' t ro fo rx
        obtain ⟨fp2, r3, m3⟩ := put_args (stay t) ar ro (apart t)
        refine h1 H' F' fp2 c o ⟨fun a u e n => t.keep a u e fun q => n ((m a).mpr (.inl q)), t.froz, fun a q => ?_⟩ ⟨r3, fo⟩ rx
        rcases m3 a q with q | q
        · exact (t.new a q).imp (fun z => (m a).mpr (.inl z)) id
        · exact .inl ((m a).mpr (.inr q))
      | bad => rw [er] at h1; exact h1.elim
/-- f(..), a def of the text -/
theorem po_call {k : Nat} {x : Str} {bs : List Bool} {run : List O → Rs O} {fa : En → Rs (List Ar)} {p : Pos} (G : FnG X.prog X.w X.K X.mg X.base k x bs run) (hr : Room k X.A) (hg : Gl X x) (tk : Takes X W) (ha : PA X (e :: es) (tArg (gx X) W fa)) (hl : ∀ env as env', fa env = .ok as env' → as.length = bs.length)
    (hdb : (x == ("__debug__" : Str)) = false := by decide) (he : starEach (e :: es) X.env = (false, eval e X.env) :: starEach es X.env := by rfl) (hpl : (backTo pos (starEach es X.env)).any (·.1) = false := by rfl) :
    PE X (.Call (.Name x p) (e :: es) [] pos) (tO (gx X) W (eCallU run fa)) := by
  obtain ⟨f, fd, ps, F, hm, hk, hb⟩ := G.ex
  exact PE.imp (pe_callSD (E := WE W) F hr hg hm hk hb .nil (fun σ => passAt tk σ) ha hdb he hpl) fun σ H Q h => call_read (fun _ _ _ _ _ _ _ => trivial) h hl
theorem aLen_nil : ∀ env as env', aNil env = .ok as env' → as.length = 0 := fun env as env' e => by cases e; rfl
theorem aLen_val {f : En → Rs D} {g : En → Rs (List Ar)} {n : Nat} (h : ∀ env as env', g env = .ok as env' → as.length = n) : ∀ env as env', aVal f g env = .ok as env' → as.length = n + 1 := fun env as env' e => by
  unfold aVal bnd at e
  cases e1 : f env with
  | ok d env1 =>
    rw [e1] at e
    dsimp only at e
    cases e2 : g env1 with
    | ok as2 env2 => rw [e2] at e; cases e; rw [List.length_cons, h _ _ _ e2]
    | exc x env2 => rw [e2] at e; cases e
    | bad => rw [e2] at e; cases e
  | exc x env1 => rw [e1] at e; cases e
  | bad => rw [e1] at e; cases e
theorem aLen_bor {i : Nat} {g : En → Rs (List Ar)} {n : Nat} (h : ∀ env as env', g env = .ok as env' → as.length = n) : ∀ env as env', aBor i g env = .ok as env' → as.length = n + 1 := fun env as env' e => by
  unfold aBor at e
  split at e
  · unfold bnd at e
    cases e2 : g env with
    | ok as2 env2 => rw [e2] at e; cases e; rw [List.length_cons, h _ _ _ e2]
    | exc x env2 => rw [e2] at e; cases e
    | bad => rw [e2] at e; cases e
  · cases e
/-! ### append, extend -/
def sApp (i : Nat) (fe : En → Rs D) : En → Rs Fl := fun env => match env[i]? with
  | some (some (.lst _)) => bnd fe (fun d env => match env[i]? with
    | some (some (.lst ds)) => if ds.length < sizeLine then .ok .nx (env.set i (some (.lst (ds ++ [d])))) else .bad
    | _ => .bad) env
  | _ => .bad
def sExt (i : Nat) (fe : En → Rs D) : En → Rs Fl := fun env => match env[i]? with
  | some (some (.lst _)) => bnd fe (fun d env => match env[i]?, d with
    | some (some (.lst ds)), .list es => if ds.length + es.length ≤ sizeLine then .ok .nx (env.set i (some (.lst (ds ++ es)))) else .bad
    | _, _ => .bad) env
  | _ => .bad
/-- the list in slot i is another one -/
theorem lst_write {K : PySem.W.Frag} {H : Hp} {F : FA} {σ : Sg} {env : En} {fp : List Addr} {i : Nat} {ds es : List D} (s : Sta K H F σ env fp) (he : env[i]? = some (some (.lst ds))) :
    ∃ a xs, σ[i]? = some (some (.ref a)) ∧ H a = some (.lst xs) ∧ RepA K H F xs ds ∧ ∀ ys, RepA K H F ys es → ∃ fp', Tr fp H F (upd H a (.lst ys)) F fp' ∧ Sta K (upd H a (.lst ys)) F σ (env.set i (some (.lst es))) fp' := by
  obtain ⟨v, f1, fp3, e1, r, re3, hm, hd⟩ := take_slot s.re he
  cases r with
  | @lst a xs _ ha hf q =>
    refine ⟨a, xs, e1, ha, q, fun ys qy => ?_⟩
    have na3 : a ∉ fp3 := hd a List.mem_cons_self
    obtain ⟨z1, z2, z3⟩ := own_write (ob := .lst ys) ⟨re3, s.fo⟩ na3 hf ⟨_, ha⟩
    have hi : i < env.length := (List.getElem?_eq_some_iff.mp he).1
    obtain ⟨fp5, re5, hm5⟩ := put_slot (i := i) z2.re (by rw [List.length_set]; exact hi) (RO.lst upd_same hf (qy.mono z3)) fun b zb zb' => na3 (by rw [← List.mem_singleton.mp zb]; exact zb')
    rw [set_get e1, List.set_set] at re5
    refine ⟨fp5, ⟨fun b u e n => z1.keep b u e fun zz => n ((hm b).mpr (List.mem_append.mp zz)), fun _ h => h, fun b zb => .inl ((hm b).mpr (List.mem_append.mp (hm5 b zb)))⟩, ⟨re5, z2.fo⟩⟩
theorem psd_app (i : Nat) {x : Str} {p apos cpos : Pos} {fe : En → Rs D} (he : PE X e (tD (gx X) W fe)) (hN : X.N[i]? = some x := by rfl) (hv : Vis X.env.scope x := by first | exact Or.inl rfl | exact Or.inr (Or.inl rfl) | exact Or.inr (Or.inr rfl)) (hd : (x == ("__debug__" : Str)) = false := by decide)
    (hcd : (x == ("__classdict__" : Str)) = false := by decide) (hst : starEach [e] X.env = (false, eval e X.env) :: starEach [] X.env := by rfl)
    (hbase : attributeBase (.Name x p) "append" X.env (eval (.Name x p) X.env) = eval (.Name x p) X.env := by rfl) (hline : (apos.endLine == cpos.line) = true := by rfl)
    (hfew : ((backTo cpos (starEach [e] X.env)).all (fun x => !x.1) && (backToKw cpos (keywordEach [] X.env)).all (fun x => x.1.isSome) && decide (([e] : List Expr).length + ([] : List Keyword).length + (if ([] : List Keyword).isEmpty then 0 else 1) < 30)) = true := by rfl)
    (hs : swapsWith (.Call (.Attribute (.Name x p) "append" apos) [e] [] cpos) none pos.line X.env = pure false := by rfl) : PS X (.Expr (.Call (.Attribute (.Name x p) "append" apos) [e] [] cpos) pos) (tS (gx X) W B (sApp i fe)) :=
  PS.imp (ps_expr (pe_bm PySem.F.plainAttrs_list PySem.F.slot_list_append PySem.F.type_list_append mt_append (pe_var hN hv hd hcd) (pa_cons he pa_nil hst) hbase hfew hline hst) hs) fun N σ H ⟨p, env, F, fp, s, h⟩ => by
    unfold sApp at h
    split at h
    · rename_i ds0 he0
      obtain ⟨a, xs, e1, ha, _, _⟩ := lst_write (es := []) s he0
      refine ⟨_, e1, .inl ⟨rfl, _, SqL.of ha⟩, env, F, fp, s, Out.mono (OutS.bind p h) fun d env1 H1 F1 fp1 t1 s1 h1 v r => ?_⟩
      split at h1
      · rename_i ds he1
        split at h1
        · rename_i hl
          obtain ⟨a', xs', e1', ha', q, k⟩ := lst_write (es := ds ++ [d]) s1 he1
          rw [e1] at e1'; cases e1'
          obtain ⟨fp', t', s'⟩ := k (xs' ++ [v]) (q.append (.cons r .nil))
          exact ⟨a, xs', v, rfl, rfl, ha', by rw [q.length]; exact hl, h1 σ _ F1 fp' p t' s'⟩
        · exact h1.elim
      · exact h1.elim
    · exact h.elim
theorem psd_ext (i : Nat) {x : Str} {p apos cpos : Pos} {fe : En → Rs D} (he : PE X e (tD (gx X) W fe)) (hN : X.N[i]? = some x := by rfl) (hv : Vis X.env.scope x := by first | exact Or.inl rfl | exact Or.inr (Or.inl rfl) | exact Or.inr (Or.inr rfl)) (hd : (x == ("__debug__" : Str)) = false := by decide)
    (hcd : (x == ("__classdict__" : Str)) = false := by decide) (hst : starEach [e] X.env = (false, eval e X.env) :: starEach [] X.env := by rfl)
    (hbase : attributeBase (.Name x p) "extend" X.env (eval (.Name x p) X.env) = eval (.Name x p) X.env := by rfl) (hline : (apos.endLine == cpos.line) = true := by rfl)
    (hfew : ((backTo cpos (starEach [e] X.env)).all (fun x => !x.1) && (backToKw cpos (keywordEach [] X.env)).all (fun x => x.1.isSome) && decide (([e] : List Expr).length + ([] : List Keyword).length + (if ([] : List Keyword).isEmpty then 0 else 1) < 30)) = true := by rfl)
    (hs : swapsWith (.Call (.Attribute (.Name x p) "extend" apos) [e] [] cpos) none pos.line X.env = pure false := by rfl) : PS X (.Expr (.Call (.Attribute (.Name x p) "extend" apos) [e] [] cpos) pos) (tS (gx X) W B (sExt i fe)) :=
  PS.imp (ps_expr (pe_bm PySem.F.plainAttrs_list PySem.F.slot_list_extend PySem.F.type_list_extend mt_extend (pe_var hN hv hd hcd) (pa_cons he pa_nil hst) hbase hfew hline hst) hs) fun N σ H ⟨p, env, F, fp, s, h⟩ => by
    unfold sExt at h
    split at h
    · rename_i ds0 he0
      obtain ⟨a, xs, e1, ha, _, _⟩ := lst_write (es := []) s he0
      refine ⟨_, e1, .inl ⟨rfl, _, SqL.of ha⟩, env, F, fp, s, Out.mono (OutS.bind p h) fun d env1 H1 F1 fp1 t1 s1 h1 v r => ?_⟩
      split at h1
      · rename_i ds es he1
        split at h1
        · rename_i hl
          obtain ⟨a', xs', e1', ha', q, k⟩ := lst_write (es := ds ++ es) s1 he1
          rw [e1] at e1'; cases e1'
          cases r with
          | lst fl q2 =>
            obtain ⟨fp', t', s'⟩ := k (xs' ++ _) (q.append q2)
            exact ⟨a, _, xs', _, rfl, rfl, ha', fl.2, by rw [q.length, q2.length]; exact hl, h1 σ _ F1 fp' p t' s'⟩
        · exact h1.elim
      · exact h1.elim
    · exact h.elim
end
end VH
set_option Elab.async false
set_option linter.all false
set_option maxRecDepth 100000
set_option maxHeartbeats 4000000
namespace VH
open PySem PySem.Spec PyProof.Rows L2

/-! ### more tests -/
def truD : D → Option Bool
  | .none => some false
  | .bool b => some b
  | .int i => some (i != 0)
  | .str y => if y.length ≤ sizeLine then some ((y.length : Int) != 0) else none
  | .list xs => some (!xs.isEmpty)
  | .tuple xs => some (!xs.isEmpty)
  | .dict xs => some (!xs.isEmpty)
def eTru (f : En → Rs D) : En → Rs Bool := fun env₀ => (bnd f fun d => lift (truD d)) env₀
section
variable {X : Cx} {W : WX} {B : Bx} {e a b : Expr} {f g : En → Rs D} {pos : Pos}
def eNN (f : En → Rs D) : En → Rs Bool := fun env₀ => (bnd f fun d => ret (isN d)) env₀
def eNNo (f : En → Rs D) : En → Rs Bool := fun env₀ => (bnd f fun d => ret (!isN d)) env₀
theorem ptd_isN {j pos'} (h : PE X a (tD (gx X) W f)) : PT X (.Compare a [.Is] [.Constant .none j pos'] pos) (tT (gx X) W (eNN f)) := PT.imp (pt_cmp (pc_isN h) rfl) fun σ H Q ⟨env, F, fp, st, h⟩ =>
  ⟨env, F, fp, st, Out.mono h.bind fun d env1 H1 F1 fp1 t1 s1 h1 v r => ⟨decide (v = .non), rfl, by rw [r.isN]; exact h1 H1 F1 fp1 .refl s1⟩⟩
theorem ptd_notN {j pos'} (h : PE X a (tD (gx X) W f)) : PT X (.Compare a [.IsNot] [.Constant .none j pos'] pos) (tT (gx X) W (eNNo f)) := PT.imp (pt_cmp (pc_notN h) rfl) fun σ H Q ⟨env, F, fp, st, h⟩ =>
  ⟨env, F, fp, st, Out.mono h.bind fun d env1 H1 F1 fp1 t1 s1 h1 v r => ⟨!decide (v = .non), rfl, by rw [r.isN]; exact h1 H1 F1 fp1 .refl s1⟩⟩
theorem tru_any : TruR X (fun x H Q => ∃ F d k, Rep X.K H F x d ∧ truD d = some k ∧ Q k H) := by
  intro pins s σ H x v Q I rx ⟨F, d, k, r, ed, q⟩
  unfold truD at ed
  split at ed
  · cases ed; cases r; exact tru_ok pins s σ H _ v Q I rx ⟨_, rfl, q⟩
  · cases ed; cases r; exact tru_ok pins s σ H _ v Q I rx ⟨_, rfl, q⟩
  · cases ed; cases r; exact tru_ok pins s σ H _ v Q I rx ⟨_, rfl, q⟩
  · split at ed
    · rename_i hz
      cases ed; cases r; exact tru_ok pins s σ H _ v Q I rx ⟨_, And.intro hz rfl, q⟩
    · cases ed
  · cases ed
    cases r with
    | lst fl ra =>
      refine tru_ok pins s σ H _ v Q I rx ⟨_, .inl ⟨_, fl.sq, rfl⟩, ?_⟩
      have : ∀ {vs : List V} {ds : List D}, RepA X.K H F vs ds → vs.isEmpty = ds.isEmpty := fun h => by cases h <;> rfl
      rw [this ra]; exact q
  · cases ed
    cases r with
    | tup fl ra =>
      refine tru_ok pins s σ H _ v Q I rx ⟨_, .inr (.inl ⟨_, fl.sq, rfl⟩), ?_⟩
      have : ∀ {vs : List V} {ds : List D}, RepA X.K H F vs ds → vs.isEmpty = ds.isEmpty := fun h => by cases h <;> rfl
      rw [this ra]; exact q
  · cases ed
    cases r with
    | dic fk ra =>
      cases rx
      refine d_truth I fk.2 fun s' I' => ⟨H, I', ?_⟩
      have : ∀ {vs : List (Key × V)} {ds : List (D × D)}, RepK X.K H F vs ds → vs.isEmpty = ds.isEmpty := fun h => by cases h <;> rfl
      rw [this ra]; exact q
theorem ptd_tru (h : PE X e (tD (gx X) W f)) (he : ∀ whole, isTrue e X.env whole = (do let v ← whole; standAt e.pos; holding [v] (truthy v)) := by intro _; rfl) : PT X e (tT (gx X) W (eTru f)) := by
  refine ⟨fun pins s σ H Q I ⟨env, F, fp, st, hw⟩ => ?_⟩
  have hw' : tD (gx X) W f σ H fun x H1 => ∃ F1 d k, Rep X.K H1 F1 x d ∧ truD d = some k ∧ Q k H1 := ⟨env, F, fp, st, Out.mono hw.bind fun d env1 H1 F1 fp1 t1 s1 h1 v r => by
    obtain ⟨k, ek, h2⟩ := h1.lift
    exact ⟨F1, d, k, r, ek, h2 H1 F1 fp1 .refl s1⟩⟩
  refine isTrue_plain (thn (h.run pins s σ H _ I hw') fun v s1 ⟨x, H1, I1, r1, q1⟩ => ?_) (he _)
  exact tru_any pins s1 σ H1 x v Q I1 r1 q1
/-! ### in, not in -/
def flatD : D → Bool
  | .none => true | .bool _ => true | .int _ => true | .str _ => true
  | _ => false
def eqF : D → D → Bool
  | .none, .none => true
  | .bool a, .bool b => a == b
  | .bool a, .int b => (if a then 1 else 0) == b
  | .int a, .bool b => a == (if b then 1 else 0)
  | .int a, .int b => a == b
  | .str a, .str b => a == b
  | _, _ => false
theorem Rep.flat {K : PySem.W.Frag} {H : Hp} {F : FA} {v : V} {d : D} (r : Rep K H F v d) : flatD d = true → flatV v = true := by cases r <;> intro h <;> first | rfl | cases h
theorem Rep.eqF {K : PySem.W.Frag} {H : Hp} {F : FA} {v u : V} {d e : D} (r : Rep K H F v d) (q : Rep K H F u e) (h1 : flatD d = true) (h2 : flatD e = true) : eqV v u = VH.eqF d e := by
  cases r <;> cases q <;> first | rfl | cases h1 | cases h2
theorem RepA.flat {K : PySem.W.Frag} {H : Hp} {F : FA} : ∀ {v : List V} {d : List D}, RepA K H F v d → d.all flatD = true → v.all flatV = true
  | _, _, .nil, _ => rfl
  | _, _, .cons h t, q => by
    rw [List.all_cons, Bool.and_eq_true] at q ⊢
    exact ⟨h.flat q.1, RepA.flat t q.2⟩
theorem RepA.inV {K : PySem.W.Frag} {H : Hp} {F : FA} {x : V} {c : D} (rx : Rep K H F x c) (hc : flatD c = true) : ∀ {v : List V} {d : List D}, RepA K H F v d → d.all flatD = true → L2.inV x v = d.any fun y => VH.eqF y c
  | _, _, .nil, _ => rfl
  | _, _, .cons h t, q => by
    rw [List.all_cons, Bool.and_eq_true] at q
    unfold L2.inV at *
    rw [List.any_cons, List.any_cons, h.eqF rx q.1 hc]
    congr 1
    exact RepA.inV rx hc t q.2
def inB (x : D) : D → Option Bool
  | .list ds => if flatD x = true ∧ ds.all flatD = true then some (ds.any fun y => eqF y x) else none
  | .tuple ds => if flatD x = true ∧ ds.all flatD = true then some (ds.any fun y => eqF y x) else none
  | .dict kvs => (keyOf x).map fun k => (lookK kvs k).isSome
  | .str z => match x with
    | .str y => if y.cps.size = 1 then some (decide (y.cps.getD 0 0 ∈ z.cps.toList)) else none
    | _ => none
  | _ => none
def inOp (x c : D) : Option D := (inB x c).map .bool
def ninOp (x c : D) : Option D := (inB x c).map fun b => .bool (!b)
theorem one_sign {y : Str} (h : y.cps.size = 1) : y = ⟨#[y.cps.getD 0 0]⟩ := by
  obtain ⟨cps⟩ := y
  obtain ⟨l⟩ := cps
  cases l with
  | nil => simp at h
  | cons c r => cases r with
    | nil => rfl
    | cons _ _ => simp at h
theorem od_inG (hu : X.A.units + 1 < cLine) {o : CmpOp} {n : Bool} (h1 : OpR X (compareOp o) (rIn X.K n))
    (h2 : ∀ {pins : List (Addr × Obj)} {σ : Sg} {H : Hp} {s : Shared} {a : Addr} {y : V} {u : Value} {op : Option V} {Q : Value → Shared → Prop}, Inv X pins σ H s → DGet H a y op → RelV y u → (∀ s', Inv X pins σ H s' → Q (.bool (if n then !op.isSome else op.isSome)) s') → wpAny (model X.prog X.w) X.A (compareOp o u (.ref a)) Q X.xe s)
    (h3 : OpR X (compareOp o) (fun x y H Q => ∃ (c : Nat) (z : Str), x = .str ⟨#[c]⟩ ∧ y = .str z ∧ Q (.bl (if n then !decide (c ∈ z.cps.toList) else decide (c ∈ z.cps.toList))) H)) :
    OpD X (compareOp o) (fun x c => (inB x c).map fun b => .bool (if n then !b else b)) := fun pins s σ H F x y v u d1 d2 d Q I rv ru r1 r2 e g => by
  obtain ⟨b, e', rfl⟩ := Option.map_eq_some_iff.mp e
  unfold inB at e'
  split at e'
  · split at e'
    · rename_i hf
      cases e'
      cases r2 with
      | lst fl ra => exact h1 pins s σ H x _ v u Q I rv ru ⟨_, _, rfl, .inl fl.sq, r1.flat hf.1, ra.flat hf.2, by rw [ra.inV r1 hf.1 hf.2]; exact g.bl⟩
    · cases e'
  · split at e'
    · rename_i hf
      cases e'
      cases r2 with
      | tup fl ra => exact h1 pins s σ H x _ v u Q I rv ru ⟨_, _, rfl, .inr fl.sq, r1.flat hf.1, ra.flat hf.2, by rw [ra.inV r1 hf.1 hf.2]; exact g.bl⟩
    · cases e'
  · rename_i kvs
    obtain ⟨k, ek, rfl⟩ := Option.map_eq_some_iff.mp e'
    cases r2 with
    | @dic a vs _ fk rk =>
      cases ru
      refine h2 I (.inl ⟨_, k, fk.2, r1.key ek, rfl⟩) rv fun s' I' => ⟨.bl _, H, I', rfl, ?_⟩
      obtain ⟨l1, l2⟩ := rk.look (k := k)
      have : (lookK kvs k).isSome = (valV vs k).isSome := by
        cases q : lookK kvs k with
        | none => rw [l2 q]; rfl
        | some z => obtain ⟨w, ew, _⟩ := l1 z q; rw [ew]; rfl
      rw [← this]
      exact g.bl
  · split at e'
    · split at e'
      · rename_i hz
        cases e'
        cases r1
        cases r2
        exact h3 pins s σ H _ _ v u Q I rv ru ⟨_, _, congrArg V.str (one_sign hz), rfl, g.bl⟩
      · cases e'
    · cases e'
  · cases e'
theorem od_in (hu : X.A.units + 1 < cLine) : OpD X (compareOp .In) inOp := od_inG (n := false) hu op_in_seq (fun I g r k => d_in hu I g r k) op_in_sign
theorem od_notIn (hu : X.A.units + 1 < cLine) : OpD X (compareOp .NotIn) ninOp := od_inG (n := true) hu op_notIn_seq (fun I g r k => d_notIn hu I g r k) op_notIn_sign
/-! ### the script -/
def eScr (i : Nat) : En → Rs (List D) := fun env => match env[i]? with
  | some (some (.scr ns)) => .ok (ns.map .int) env
  | _ => .bad
theorem repA_ints {K : PySem.W.Frag} {H : Hp} {F : FA} : ∀ ns : List Int, RepA K H F (ns.map V.int) (ns.map .int)
  | [] => .nil
  | n :: ns => .cons (.int n) (repA_ints ns)
theorem pid_scr (i : Nat) {x : Str} {p : Pos} {tg : Expr} (hN : X.N[i]? = some x := by rfl) (hv : Vis X.env.scope x := by first | exact Or.inl rfl | exact Or.inr (Or.inl rfl) | exact Or.inr (Or.inr rfl)) (hd : (x == ("__debug__" : Str)) = false := by decide)
    (hcd : (x == ("__classdict__" : Str)) = false := by decide) : PI X tg (.Name x p) (tI (gx X) W (eScr i)) := by
  have hp := pi_list (tg := tg) (pe_var (X := X) (pos := p) hN hv hd hcd)
  refine ⟨fun pins s σ H R I ⟨env, F, fp, st, h⟩ => ?_⟩
  unfold eScr at h
  split at h
  · rename_i ns he
    obtain ⟨v, f1, fr, e1, r, hm, hd', hk⟩ := pv_of st.re he
    cases r with
    | @scr a _ q =>
      have sq : ∀ {H2 F2}, Stb H F H2 F2 → SqL X.K H2 a (ns.map V.int) := fun {H2 F2} sb => by
        rcases q with ⟨f, q⟩ | q
        · exact .inl (sb.rd _ _ f (fun _ _ z => nomatch z) q)
        · rcases q with (q | ⟨_, q⟩) | q
          · cases q
          · cases q
          · exact .inr q
      obtain ⟨its, rv, pl, hz⟩ := I.list (sq .refl)
      refine hp.run pins s σ H R I ⟨_, e1, a, rfl, ⟨_, sq .refl⟩, h H F fp .refl st _ ⟨?_, fun H2 F2 kp i d e => have sb := kp.stb; ?_, fun H2 F2 kp i hl => have sb := kp.stb; ?_⟩⟩
      · simpa using hz
      · obtain ⟨v, ev, r⟩ := (repA_ints (K := X.K) (H := H2) (F := F2) ns).get e
        refine ⟨⟨_, v, sq sb, ev⟩, fun x H' ⟨eH, y⟩ => ?_⟩
        subst eH
        have z := y _ (sq sb)
        rw [ev] at z; cases z
        exact ⟨F2, .refl, r⟩
      · exact ⟨_, sq sb, by simpa using hl⟩
  · exact h.elim
end
/-! ### isinstance by names -/
def vi_int : D → Bool
  | .bool _ => true
  | .int _ => true
  | _ => false
theorem vis_int : ∀ d : D, kitB (tyD d) "int" = some (vi_int d)
  | .none => (by decide +kernel : kitB "NoneType" "int" = some false)
  | .bool _ => (by decide +kernel : kitB "bool" "int" = some true)
  | .int _ => (by decide +kernel : kitB "int" "int" = some true)
  | .str _ => (by decide +kernel : kitB "str" "int" = some false)
  | .list _ => (by decide +kernel : kitB "list" "int" = some false)
  | .tuple _ => (by decide +kernel : kitB "tuple" "int" = some false)
  | .dict _ => (by decide +kernel : kitB "dict" "int" = some false)
def vi_bool : D → Bool
  | .bool _ => true
  | _ => false
theorem vis_bool : ∀ d : D, kitB (tyD d) "bool" = some (vi_bool d)
  | .none => (by decide +kernel : kitB "NoneType" "bool" = some false)
  | .bool _ => (by decide +kernel : kitB "bool" "bool" = some true)
  | .int _ => (by decide +kernel : kitB "int" "bool" = some false)
  | .str _ => (by decide +kernel : kitB "str" "bool" = some false)
  | .list _ => (by decide +kernel : kitB "list" "bool" = some false)
  | .tuple _ => (by decide +kernel : kitB "tuple" "bool" = some false)
  | .dict _ => (by decide +kernel : kitB "dict" "bool" = some false)
def vi_str : D → Bool
  | .str _ => true
  | _ => false
theorem vis_str : ∀ d : D, kitB (tyD d) "str" = some (vi_str d)
  | .none => (by decide +kernel : kitB "NoneType" "str" = some false)
  | .bool _ => (by decide +kernel : kitB "bool" "str" = some false)
  | .int _ => (by decide +kernel : kitB "int" "str" = some false)
  | .str _ => (by decide +kernel : kitB "str" "str" = some true)
  | .list _ => (by decide +kernel : kitB "list" "str" = some false)
  | .tuple _ => (by decide +kernel : kitB "tuple" "str" = some false)
  | .dict _ => (by decide +kernel : kitB "dict" "str" = some false)
def vi_tuple : D → Bool
  | .tuple _ => true
  | _ => false
theorem vis_tuple : ∀ d : D, kitB (tyD d) "tuple" = some (vi_tuple d)
  | .none => (by decide +kernel : kitB "NoneType" "tuple" = some false)
  | .bool _ => (by decide +kernel : kitB "bool" "tuple" = some false)
  | .int _ => (by decide +kernel : kitB "int" "tuple" = some false)
  | .str _ => (by decide +kernel : kitB "str" "tuple" = some false)
  | .list _ => (by decide +kernel : kitB "list" "tuple" = some false)
  | .tuple _ => (by decide +kernel : kitB "tuple" "tuple" = some true)
  | .dict _ => (by decide +kernel : kitB "dict" "tuple" = some false)
def vi_list : D → Bool
  | .list _ => true
  | _ => false
theorem vis_list : ∀ d : D, kitB (tyD d) "list" = some (vi_list d)
  | .none => (by decide +kernel : kitB "NoneType" "list" = some false)
  | .bool _ => (by decide +kernel : kitB "bool" "list" = some false)
  | .int _ => (by decide +kernel : kitB "int" "list" = some false)
  | .str _ => (by decide +kernel : kitB "str" "list" = some false)
  | .list _ => (by decide +kernel : kitB "list" "list" = some true)
  | .tuple _ => (by decide +kernel : kitB "tuple" "list" = some false)
  | .dict _ => (by decide +kernel : kitB "dict" "list" = some false)
def vi_dict : D → Bool
  | .dict _ => true
  | _ => false
theorem vis_dict : ∀ d : D, kitB (tyD d) "dict" = some (vi_dict d)
  | .none => (by decide +kernel : kitB "NoneType" "dict" = some false)
  | .bool _ => (by decide +kernel : kitB "bool" "dict" = some false)
  | .int _ => (by decide +kernel : kitB "int" "dict" = some false)
  | .str _ => (by decide +kernel : kitB "str" "dict" = some false)
  | .list _ => (by decide +kernel : kitB "list" "dict" = some false)
  | .tuple _ => (by decide +kernel : kitB "tuple" "dict" = some false)
  | .dict _ => (by decide +kernel : kitB "dict" "dict" = some true)
/-! ### the law -/
theorem law_sp {K : PySem.W.Frag} {mg : Str → Option Value} {run : List O → Rs O} {H : Hp} {a : Addr} {ns : List Int} {outs : En} (hS : SqL K H a (ns.map V.int)) (h : run [.scr ns] = .ok (.sh (.bool true)) [none]) :
    spO ⟨K, mg⟩ [false] run [.ref a] H (fun v _ => v = .bl true) (fun _ _ _ => False) := by
  refine ⟨rfl, [.scr ns], fun b => ∃ u, H b = some u, [], rfl, .cons (f1 := []) (f2 := []) (.yes (.scr ?_)) .nil (fun _ q => nomatch q), fun _ q => q, ?_⟩
  · rcases hS with q | q
    · refine .inl ⟨?_, q⟩
      rcases q with q | ⟨_, q⟩ <;> exact ⟨_, q⟩
    · exact .inr (.inr q)
  · rw [h]
    intro v H' F' fr fp' t re fo ro dj
    cases ro with
    | sh r => cases r; rfl
end VH
set_option Elab.async false
set_option linter.all false
set_option maxRecDepth 100000
set_option maxHeartbeats 4000000
namespace VH
open PySem PySem.Spec PyProof.Rows L2

/-! ### the tape of a law -/
structure Tape where
  cells : List Int
  at_ : Nat
  left : Int
  seed : Int
  salt : Int
abbrev kc : Key := .inr (Str.ofString "cells")
abbrev ka : Key := .inr (Str.ofString "at")
abbrev kl : Key := .inr (Str.ofString "left")
abbrev ks : Key := .inr (Str.ofString "seed")
abbrev kx : Key := .inr (Str.ofString "salt")
def tapeK (c a l s x : O) : List (Key × O) := [(kc, c), (ka, a), (kl, l), (ks, s), (kx, x)]
theorem key_ne {a b : String} (h : decide (Str.ofString a = Str.ofString b) = false) : ¬ (Sum.inr (Str.ofString a) : Key) = Sum.inr (Str.ofString b) := fun q => by
  have := of_decide_eq_false h
  exact this (Sum.inr.inj q)
theorem n_ca : ¬ kc = ka := key_ne (by decide +kernel)
theorem n_cl : ¬ kc = kl := key_ne (by decide +kernel)
theorem n_cs : ¬ kc = ks := key_ne (by decide +kernel)
theorem n_cx : ¬ kc = kx := key_ne (by decide +kernel)
theorem n_al : ¬ ka = kl := key_ne (by decide +kernel)
theorem n_as : ¬ ka = ks := key_ne (by decide +kernel)
theorem n_ax : ¬ ka = kx := key_ne (by decide +kernel)
theorem n_ls : ¬ kl = ks := key_ne (by decide +kernel)
theorem n_lx : ¬ kl = kx := key_ne (by decide +kernel)
theorem n_sx : ¬ ks = kx := key_ne (by decide +kernel)
section
variable {c a l s x v : O}
theorem lk_c : lookO (tapeK c a l s x) kc = some c := by simp only [tapeK, lookO, if_true]
theorem lk_a : lookO (tapeK c a l s x) ka = some a := by simp only [tapeK, lookO, if_true, if_neg n_ca]
theorem lk_l : lookO (tapeK c a l s x) kl = some l := by simp only [tapeK, lookO, if_true, if_neg n_cl, if_neg n_al]
theorem lk_s : lookO (tapeK c a l s x) ks = some s := by simp only [tapeK, lookO, if_true, if_neg n_cs, if_neg n_as, if_neg n_ls]
theorem lk_x : lookO (tapeK c a l s x) kx = some x := by simp only [tapeK, lookO, if_true, if_neg n_cx, if_neg n_ax, if_neg n_lx, if_neg n_sx]
theorem pt_a : putO (tapeK c a l s x) ka v = tapeK c v l s x := by
  unfold putO
  rw [if_pos (by simp [tapeK])]
  simp only [tapeK, List.map_cons, List.map_nil, if_true, if_neg n_ca, if_neg (Ne.symm n_al), if_neg (Ne.symm n_as), if_neg (Ne.symm n_ax)]
theorem pt_l : putO (tapeK c a l s x) kl v = tapeK c a v s x := by
  unfold putO
  rw [if_pos (by simp [tapeK])]
  simp only [tapeK, List.map_cons, List.map_nil, if_true, if_neg n_cl, if_neg n_al, if_neg (Ne.symm n_ls), if_neg (Ne.symm n_lx)]
theorem pt_x : putO (tapeK c a l s x) kx v = tapeK c a l s v := by
  unfold putO
  rw [if_pos (by simp [tapeK])]
  simp only [tapeK, List.map_cons, List.map_nil, if_true, if_neg n_cx, if_neg n_ax, if_neg n_lx, if_neg n_sx]
theorem tk_len : (tapeK c a l s x).length < sizeLine := by show 5 < sizeLine; decide
end
def tapeO (T : Tape) : O := .dic (tapeK (.sh (.list (T.cells.map .int))) (.sh (.int T.at_)) (.sh (.int T.left)) (.sh (.int T.seed)) (.sh (.int T.salt)))
def preT (T : Tape) : Tape := if T.left = 0 ∧ T.at_ < T.cells.length then { T with left := T.cells.getD T.at_ 0, at_ := T.at_ + 1 } else T
def mixT (T : Tape) : Int :=
  let y := (T.seed * 48271 + (T.salt + 1) * 69621) % 2147483647
  (y * y + (T.salt + 1) * 40692 + 12345) % 2147483399
def drawT (T : Tape) (m : Int) : Int × Tape := if 0 < T.left then (T.left % m, { T with left := T.left / m }) else (mixT T % m, { T with salt := T.salt + 1 })
def takeT (T : Tape) (m : Int) : Int × Tape := drawT (preT T) m
theorem takeT_lo (T : Tape) {m : Int} (h : 0 < m) : 0 ≤ (takeT T m).1 := by
  unfold takeT drawT
  split
  · exact Int.emod_nonneg _ (by omega)
  · exact Int.emod_nonneg _ (by omega)
theorem takeT_hi (T : Tape) {m : Int} (h : 0 < m) : (takeT T m).1 < m := by
  unfold takeT drawT
  split
  · exact Int.emod_lt_of_pos _ h
  · exact Int.emod_lt_of_pos _ h
end VH
set_option Elab.async false
set_option linter.all false
set_option maxRecDepth 100000
set_option maxHeartbeats 4000000
namespace VH
open PySem PySem.Spec PyProof.Rows L2
theorem cx_none {P : Program} {w : World} {H : Hp} {s s' : Shared} {e : Value} {o : List Env} (h : L2.CX P w o H s (fun _ _ _ => False) e s') : False := by
  obtain ⟨_, _, _, _, _, _, _, _, _, _, _, _, h⟩ := h
  exact h
theorem law_spG {K : PySem.W.Frag} {mg : Str → Option Value} {run : List O → Rs O} {H : Hp} {a : Addr} {ns : List Int} {outs : En} {Q : VK} {E : XK} (hS : SqL K H a (ns.map V.int)) (h : run [.scr ns] = .ok (.sh (.bool true)) outs) (hQ : ∀ H', Q (.bl true) H') :
    spO ⟨K, mg⟩ [false] run [.ref a] H Q E := by
  refine ⟨rfl, [.scr ns], fun b => ∃ u, H b = some u, [], rfl, .cons (f1 := []) (f2 := []) (.yes (.scr ?_)) .nil (fun _ q => nomatch q), fun _ q => q, ?_⟩
  · rcases hS with q | q
    · refine .inl ⟨?_, q⟩
      rcases q with q | ⟨_, q⟩ <;> exact ⟨_, q⟩
    · exact .inr (.inr q)
  · rw [h]
    intro v H' F' fr fp' t re fo ro dj
    cases ro with
    | sh r => cases r; exact hQ H'
section
variable {P : Program} {w : World} {K : PySem.W.Frag} {mg : Str → Option Value} {base : Heap}
theorem g_bad {x : Str} {st : Stmt} {f : Addr} {fd : FuncData} {N ps : List Str} {k : Nat} {bs : List Bool} (F : Fun K x x st f fd) (S : FnScope N ps (defScope st)) (hl : ps.length = bs.length) (m : mg x = some (.ref f)) (hb : Binds K fd ps []) : FnG P w K mg base (k + 1) x bs (fun _ => .bad) :=
  ⟨f, fd, ps, F.okX S (fun vs H Q E h => h.1.trans hl.symm) (fun cdv A outer s H vs Q E hr h => by
    obtain ⟨_, _, _, _, _, _, _, h⟩ := h
    exact h.elim), m, F.kp, hb⟩
end
end VH
set_option Elab.async false
set_option linter.all false
set_option maxRecDepth 100000
set_option maxHeartbeats 4000000
namespace VH
open PySem PySem.Spec PyProof.Rows L2

/-! ### a op b op' c -/
def eChain (o1 o2 : D → D → Option D) (fa fb fc : En → Rs D) : En → Rs D := fun env₀ => (bnd fa fun x => bnd fb fun y => bnd (lift (o1 x y)) fun r => match r with
  | .bool true => bnd fc fun z => lift (o2 y z)
  | .bool false => ret (.bool false)
  | _ => fun _ => .bad) env₀
section
variable {X : Cx} {W : WX} {B : Bx} {G : Gx}
/-- the start of an outcome moved on -/
theorem Out.on {α : Type} {σ : Sg} {fp fp1 : List Addr} {H H1 : Hp} {F F1 : FA} {r : Rs α} {P : α → En → Hp → FA → List Addr → Prop} (h : Out G W σ fp H F r P) (t : Tr fp H F H1 F1 fp1) : Out G W σ fp1 H1 F1 r P := by
  cases r with
  | ok a env => exact fun H' F' fp' t' s' => h H' F' fp' (t.trans t') s'
  | exc x env => exact fun H' F' fp' c o t' s' r' => h H' F' fp' c o (t.trans t') s' r'
  | bad => exact h
theorem tD_chain {o1 o2 : D → D → Option D} {fa fb fc : En → Rs D} {σ : Sg} {H : Hp} {Q : VK} (h : tD (gx X) W (eChain o1 o2 fa fb fc) σ H Q) :
    tD (gx X) W fa σ H fun x H1 => tD (gx X) W fb σ H1 fun y H2 => ∃ F2 d1 d2 d, Rep X.K H2 F2 x d1 ∧ Rep X.K H2 F2 y d2 ∧ o1 d1 d2 = some d ∧ Gv X.K H2 F2 d fun z H3 => ∃ k, z = .bl k ∧
      if k = true then tD (gx X) W fc σ H3 (fun w H4 => ∃ F4 d2 d3 d', Rep X.K H4 F4 y d2 ∧ Rep X.K H4 F4 w d3 ∧ o2 d2 d3 = some d' ∧ Gv X.K H4 F4 d' Q) else Q (.bl false) H3 := by
  obtain ⟨env, F, fp, st, h⟩ := h
  refine ⟨env, F, fp, st, Out.mono h.bind fun d1 env1 H1 F1 fp1 t1 s1 h1 v1 r1 => ?_⟩
  refine ⟨env1, F1, fp1, s1, Out.mono h1.bind fun d2 env2 H2 F2 fp2 t2 s2 h2 v2 r2 => ?_⟩
  obtain ⟨d, e, h3⟩ := h2.bind.lift
  refine ⟨F2, d1, d2, d, r1.tr s1.re t2, r2, e, fun z H3 F3 n r => ?_⟩
  have h4 := h3 H3 F3 fp2 n.tr (n.sta s2)
  cases d with
  | bool k =>
    cases r
    refine ⟨k, rfl, ?_⟩
    cases k with
    | false => exact h4 H3 F3 fp2 .refl (n.sta s2) _ (.bl false)
    | true =>
      refine ⟨env2, F3, fp2, n.sta s2, Out.mono h4.bind fun d3 env4 H4 F4 fp4 t4 s4 h5 v4 r4 => ?_⟩
      obtain ⟨d', e', h6⟩ := h5.lift
      exact ⟨F4, d2, d3, d', (r2.mono n.stb).tr (n.sta s2).re t4, r4, e', fun v H' F' n' r => h6 H' F' fp4 n'.tr (n'.sta s4) v r⟩
  | _ => exact h4.elim
theorem pd_chain {op op' : CmpOp} {o1 o2 : D → D → Option D} {a b c : Expr} {fa fb fc : En → Rs D} {pos : Pos} (ho : OpD X (compareOp op) o1) (ho' : OpD X (compareOp op') o2) (ha : PE X a (tD (gx X) W fa)) (hb : PE X b (tD (gx X) W fb)) (hc : PE X c (tD (gx X) W fc))
    (hm : lastMarks [op, op'] [b, c] = false := by with_unfolding_all rfl) : PE X (.Compare a [op, op'] [b, c] pos) (tD (gx X) W (eChain o1 o2 fa fb fc)) := by
  refine ⟨fun pins s σ H Q I h => ?_⟩
  refine Compare_chain (thn (ha.run pins s σ H _ I (tD_chain h)) fun v s1 ⟨x, H1, I1, r1, q1⟩ => chain_link (thn (hb.run pins s1 σ H1 _ I1 q1) fun u s2 ⟨y, H2, I2, r2, F2, d1, d2, d, p1, p2, e, g⟩ =>
    thn (ho pins s2 σ H2 F2 x y v u d1 d2 d _ I2 r1 r2 p1 p2 e g) fun _ s3 ⟨z, H3, I3, r3, k, ez, q3⟩ => ?_)) hm
  subst ez
  cases r3
  refine wpAny_truthy_bool ?_
  cases k with
  | false => exact ite_ff ⟨.bl false, H3, I3, rfl, q3⟩
  | true => exact ite_tt (chain_last (thn (hc.run pins s3 σ H3 _ I3 q3) fun w' s4 ⟨z', H4, I4, r4, F4, e2, e3, d', p2', p3, e', g'⟩ => ho' pins s4 σ H4 F4 y z' u w' e2 e3 d' Q I4 r2 r4 p2' p3 e' g'))
theorem ptd_chain {op op' : CmpOp} {o1 o2 : D → D → Option D} {a b c : Expr} {fa fb fc : En → Rs D} {pos : Pos} (ho : OpD X (compareOp op) o1) (ho' : OpD X (compareOp op') o2) (ha : PE X a (tD (gx X) W fa)) (hb : PE X b (tD (gx X) W fb)) (hc : PE X c (tD (gx X) W fc))
    (hm : lastMarks [op, op'] [b, c] = false := by with_unfolding_all rfl) : PT X (.Compare a [op, op'] [b, c] pos) (tT (gx X) W (eB (eChain o1 o2 fa fb fc))) := by
  refine ⟨fun pins s σ H Q I h => ?_⟩
  refine isTrue_chain (thn (ha.run pins s σ H _ I (tD_chain (tD_B h))) fun v s1 ⟨x, H1, I1, r1, q1⟩ => test_link (thn (hb.run pins s1 σ H1 _ I1 q1) fun u s2 ⟨y, H2, I2, r2, F2, d1, d2, d, p1, p2, e, g⟩ =>
    thn (ho pins s2 σ H2 F2 x y v u d1 d2 d _ I2 r1 r2 p1 p2 e g) fun _ s3 ⟨z, H3, I3, r3, k, ez, q3⟩ => ?_)) hm
  subst ez
  cases r3
  refine wpAny_truthy_bool ?_
  cases k with
  | false =>
    obtain ⟨k', e', q'⟩ := q3
    cases e'
    exact ite_ff ⟨H3, I3, q'⟩
  | true =>
    refine ite_tt (test_last (thn (hc.run pins s3 σ H3 _ I3 q3) fun w' s4 ⟨z', H4, I4, r4, F4, e2, e3, d', p2', p3, e', g'⟩ => thn (ho' pins s4 σ H4 F4 y z' u w' e2 e3 d' _ I4 r2 r4 p2' p3 e' g') fun _ s5 ⟨z2, H5, I5, r5, k2, ek2, q5⟩ => ?_))
    subst ek2
    cases r5
    exact wpAny_truthy_bool ⟨H5, I5, q5⟩
/-! ### all, any -/
def boolsD : List D → Option (List Bool)
  | [] => some []
  | .bool b :: r => (boolsD r).map (b :: ·)
  | _ => none
theorem RepA.bools {K : PySem.W.Frag} {H : Hp} {F : FA} : ∀ {ds : List D} {bs : List Bool} {vs : List V}, RepA K H F vs ds → boolsD ds = some bs → vs = bs.map V.bl
  | [], bs, _, .nil, e => by cases e; rfl
  | .bool b :: r, bs, _, .cons h t, e => by
    unfold boolsD at e
    obtain ⟨cs, ec, rfl⟩ := Option.map_eq_some_iff.mp e
    cases h
    rw [RepA.bools t ec]
    rfl
  | .none :: _, _, _, _, e => by cases e
  | .int _ :: _, _, _, _, e => by cases e
  | .str _ :: _, _, _, _, e => by cases e
  | .list _ :: _, _, _, _, e => by cases e
  | .tuple _ :: _, _, _, _, e => by cases e
  | .dict _ :: _, _, _, _, e => by cases e
def allD : List D → Option D
  | [.list ds] => (boolsD ds).map fun bs => .bool (bs.all id)
  | _ => none
def anyD : List D → Option D
  | [.list ds] => (boolsD ds).map fun bs => .bool (bs.any id)
  | _ => none
theorem cd_all (hc : X.calm = true) : CallD X (.builtin "all") allD := .of (cr_all hc) fun H F vs ds d Q r e g => by
  unfold allD at e
  split at e
  · obtain ⟨bs, eb, rfl⟩ := Option.map_eq_some_iff.mp e
    obtain ⟨v, rfl, q0⟩ := r.one
    cases q0 with
    | lst fl q => exact ⟨_, bs, rfl, by rw [← RepA.bools q eb]; exact .inl (.inl fl.2), g _ H F .refl (.bl _)⟩
  · cases e
theorem cd_any (hc : X.calm = true) : CallD X (.builtin "any") anyD := .of (cr_any hc) fun H F vs ds d Q r e g => by
  unfold anyD at e
  split at e
  · obtain ⟨bs, eb, rfl⟩ := Option.map_eq_some_iff.mp e
    obtain ⟨v, rfl, q0⟩ := r.one
    cases q0 with
    | lst fl q => exact ⟨_, bs, rfl, by rw [← RepA.bools q eb]; exact .inl (.inl fl.2), g _ H F .refl (.bl _)⟩
  · cases e
/-! ### d.get(k, x): the dict in a slot -/
def eGet (i : Nat) (fk fx : En → Rs D) : En → Rs D := fun env => match env[i]? with
  | some (some (.sh (.dict kvs))) => bnd fk (fun k => bnd fx fun x => lift ((keyOf k).map fun key => (lookK kvs key).getD x)) env
  | some (some (.dic _)) => bnd fk (fun k => bnd fx fun x env => match env[i]? with
    | some (some (.dic kvs)) => match (keyOf k).map (lookO kvs) with
      | some none => .ok x env
      | some (some (.sh d)) => .ok d env
      | _ => .bad
    | _ => .bad) env
  | _ => .bad
theorem pd_get (hu : X.A.units + 1 < cLine) (i : Nat) {x : Str} {p apos cpos : Pos} {e f : Expr} {fk fx : En → Rs D} (he : PE X e (tD (gx X) W fk)) (hf : PE X f (tD (gx X) W fx)) (m : M2 X (.Name x p) "get" apos e f cpos) (hN : X.N[i]? = some x := by rfl) (hv : Vis X.env.scope x := by first | exact Or.inl rfl | exact Or.inr (Or.inl rfl) | exact Or.inr (Or.inr rfl))
    (hd : (x == ("__debug__" : Str)) = false := by decide) (hcd : (x == ("__classdict__" : Str)) = false := by decide) : PE X (.Call (.Attribute (.Name x p) "get" apos) [e, f] [] cpos) (tD (gx X) W (eGet i fk fx)) :=
  PE.imp (pe_dget2 hu (pe_var hN hv hd hcd) he hf m) fun σ H Q ⟨env, F, fp, st, h⟩ => by
    unfold eGet at h
    split at h
    · rename_i kvs he
      obtain ⟨v, f1, fr, e1, r, hm, hd, hk⟩ := pv_of st.re he
      cases r with
      | sh r =>
        cases r with
        | dic fk q =>
          refine ⟨_, e1, _, rfl, .inl ⟨_, fk.2⟩, env, F, fp, st, Out.mono h.bind fun k env1 H1 F1 fp1 t1 s1 h1 u ru => ?_⟩
          refine ⟨env1, F1, fp1, s1, Out.mono h1.bind fun z env2 H2 F2 fp2 t2 s2 h2 w rw' => ?_⟩
          obtain ⟨d, ed, h3⟩ := h2.lift
          obtain ⟨key, ek, rfl⟩ := Option.map_eq_some_iff.mp ed
          have r2 := ((Rep.dic fk q).tr st.re t1).tr s1.re t2
          cases r2 with
          | dic fk2 q2 =>
            refine ⟨valV _ key, .inl ⟨_, key, fk2.2, (ru.tr s1.re t2).key ek, rfl⟩, ?_⟩
            obtain ⟨i1, i2⟩ := q2.look (k := key)
            cases el : lookK kvs key with
            | none =>
              rw [i2 el]
              rw [el] at h3
              exact h3 H2 F2 fp2 .refl s2 _ rw'
            | some d0 =>
              obtain ⟨v0, ev, rv⟩ := i1 d0 el
              rw [ev]
              rw [el] at h3
              exact h3 H2 F2 fp2 .refl s2 _ rv
    · rename_i kvs0 he
      obtain ⟨v, f1, fr, e1, r, hm, hd, hk⟩ := pv_of st.re he
      cases r with
      | dic ha0 hf0 q0 hn0 =>
        refine ⟨_, e1, _, rfl, .inl ⟨_, .inl ha0⟩, env, F, fp, st, Out.mono h.bind fun k env1 H1 F1 fp1 t1 s1 h1 u ru => ?_⟩
        refine ⟨env1, F1, fp1, s1, Out.mono h1.bind fun z env2 H2 F2 fp2 t2 s2 h2 w rw' => ?_⟩
        split at h2
        · rename_i kvs he1
          obtain ⟨v', f1', fr', e1', r', hm', hd', hk'⟩ := pv_of s2.re he1
          rw [e1] at e1'
          cases e1'
          cases r' with
          | dic ha hf q hn =>
            split at h2
            · rename_i ed
              obtain ⟨key, ek, el⟩ := Option.map_eq_some_iff.mp ed
              refine ⟨valV _ key, .inl ⟨_, key, .inl ha, (ru.tr s1.re t2).key ek, rfl⟩, ?_⟩
              rw [q.none el]
              exact h2 H2 F2 fp2 .refl s2 _ rw'
            · rename_i d ed
              obtain ⟨key, ek, el⟩ := Option.map_eq_some_iff.mp ed
              refine ⟨valV _ key, .inl ⟨_, key, .inl ha, (ru.tr s1.re t2).key ek, rfl⟩, ?_⟩
              obtain ⟨w', g1, ew, rw2⟩ := q.look el
              rw [ew]
              cases rw2 with
              | sh rw2 => exact h2 H2 F2 fp2 .refl s2 _ rw2
            · exact h2.elim
        · exact h2.elim
    · exact h.elim
end
/-! ### zip of two lists, of two tuples -/
def zipL (xs ys : List D) : List D := (xs.zip ys).map fun p => .tuple [p.1, p.2]
def zipD : D → D → Option (List D)
  | .list x, .list y => if x.length ≤ sizeLine then some (zipL x y) else none
  | .tuple x, .tuple y => if x.length ≤ sizeLine then some (zipL x y) else none
  | _, _ => none
def eZip (f g : En → Rs D) : En → Rs (List D) := fun env₀ => (bnd f fun d => bnd g fun e => lift (zipD d e)) env₀
theorem zipL_get {xs ys : List D} {i : Nat} {d : D} (h : (zipL xs ys)[i]? = some d) : ∃ x y, xs[i]? = some x ∧ ys[i]? = some y ∧ d = .tuple [x, y] := by
  unfold zipL at h
  rw [List.getElem?_map] at h
  obtain ⟨p, hp, rfl⟩ := Option.map_eq_some_iff.mp h
  obtain ⟨a, b⟩ := p
  obtain ⟨h1, h2⟩ := List.getElem?_zip_eq_some.mp hp
  exact ⟨a, b, h1, h2, rfl⟩
theorem zipL_len (xs ys : List D) : (zipL xs ys).length = min xs.length ys.length := by simp [zipL]
section
variable {K : PySem.W.Frag} {H : Hp} {F : FA} {a b : Addr} {xs ys : List V} {ds es : List D}
theorem wk_zip (f : FL H F a xs) (q : RepA K H F xs ds) (hz : xs.length ≤ sizeLine) (f' : FL H F b ys) (q' : RepA K H F ys es) : Wk K (Itz K a b) H F (zipL ds es) where
  len := by rw [zipL_len, ← q.length]; exact Nat.le_trans (Nat.min_le_left _ _) hz
  go := fun H2 F2 kp i d e => by
    have sb := kp.stb
    have f2 : FL H2 F2 a xs := ⟨sb.fz _ f.1, sb.un _ _ f.1 f.2 (fun _ _ z => nomatch z) fun _ z => nomatch z⟩
    have f2' : FL H2 F2 b ys := ⟨sb.fz _ f'.1, sb.un _ _ f'.1 f'.2 (fun _ _ z => nomatch z) fun _ z => nomatch z⟩
    obtain ⟨x0, y0, ex, ey, rfl⟩ := zipL_get e
    obtain ⟨v, ev, r⟩ := (q.mono sb).get ex
    obtain ⟨v', ev', r'⟩ := (q'.mono sb).get ey
    refine ⟨⟨xs, ys, v, v', f2.sq, f2'.sq, ev, ev'⟩, fun x H' ⟨T, x1, y1, ex1, nT, eH, y2, y3⟩ => ?_⟩
    have z := y2 xs f2.sq
    have z' := y3 ys f2'.sq
    rw [ev] at z; cases z
    rw [ev'] at z'; cases z'
    subst ex1 eH
    exact ⟨_, Nw.lay nT, .tup (.inl ⟨.inr rfl, upd_same⟩) (.cons (r.nw (Nw.lay nT)) (.cons (r'.nw (Nw.lay nT)) .nil))⟩
  stop := fun H2 F2 kp i h => by
    have sb := kp.stb
    have f2 : FL H2 F2 a xs := ⟨sb.fz _ f.1, sb.un _ _ f.1 f.2 (fun _ _ z => nomatch z) fun _ z => nomatch z⟩
    have f2' : FL H2 F2 b ys := ⟨sb.fz _ f'.1, sb.un _ _ f'.1 f'.2 (fun _ _ z => nomatch z) fun _ z => nomatch z⟩
    rw [zipL_len, ← q.length, ← q'.length] at h
    exact ⟨xs, ys, f2.sq, f2'.sq, by omega⟩
theorem wk_zipT (f : FT K H F a xs) (q : RepA K H F xs ds) (hz : xs.length ≤ sizeLine) (f' : FT K H F b ys) (q' : RepA K H F ys es) : Wk K (RZ.ItzT K a b) H F (zipL ds es) where
  len := by rw [zipL_len, ← q.length]; exact Nat.le_trans (Nat.min_le_left _ _) hz
  go := fun H2 F2 kp i d e => by
    have sb := kp.stb
    obtain ⟨x0, y0, ex, ey, rfl⟩ := zipL_get e
    obtain ⟨v, ev, r⟩ := (q.mono sb).get ex
    obtain ⟨v', ev', r'⟩ := (q'.mono sb).get ey
    refine ⟨⟨xs, ys, v, v', (f.mono sb).sq, (f'.mono sb).sq, ev, ev'⟩, fun x H' ⟨T, x1, y1, ex1, nT, eH, y2, y3⟩ => ?_⟩
    have z := y2 xs (f.mono sb).sq
    have z' := y3 ys (f'.mono sb).sq
    rw [ev] at z; cases z
    rw [ev'] at z'; cases z'
    subst ex1 eH
    exact ⟨_, Nw.lay nT, .tup (.inl ⟨.inr rfl, upd_same⟩) (.cons (r.nw (Nw.lay nT)) (.cons (r'.nw (Nw.lay nT)) .nil))⟩
  stop := fun H2 F2 kp i h => by
    have sb := kp.stb
    rw [zipL_len, ← q.length, ← q'.length] at h
    exact ⟨xs, ys, (f.mono sb).sq, (f'.mono sb).sq, by omega⟩
end
section
variable {X : Cx} {W : WX} {f g : En → Rs D} {p pos : Pos}
theorem pid_zip {a b : Expr} {elts : List Expr} {kk : Nat} {tpos : Pos} (hg : Gl X "zip") (hm : X.mg "zip" = none) (ha : PE X a (tD (gx X) W f)) (hb : PE X b (tD (gx X) W g)) (hs : starEach [a, b] X.env = (false, eval a X.env) :: starEach [b] X.env := by rfl) (hs2 : starEach [b] X.env = (false, eval b X.env) :: starEach [] X.env := by rfl) :
    PI X (.Tuple elts kk tpos) (.Call (.Name "zip" p) [a, b] [] pos) (tI (gx X) W (eZip f g)) :=
  PI.imp (RZ.pi_zipA hg hm (pa_cons ha (pa_cons hb pa_nil hs2) hs) hs (by rw [hs2]; rfl)) fun σ H R h => by
    refine tD_imp (tI_D2 h) fun v H1 hq => tD_imp hq fun v2 H2 ⟨F2, d, e, items, r, r2, ed, k⟩ => ?_
    unfold zipD at ed
    split at ed
    · split at ed
      · rename_i hz
        cases ed
        cases r with
        | lst fl q =>
          cases r2 with
          | lst fl2 q2 => exact ⟨_, _, _, _, rfl, .inl ⟨fl.sq, fl2.sq, k _ (wk_zip fl q (by rw [q.length]; exact hz) fl2 q2)⟩⟩
      · cases ed
    · split at ed
      · rename_i hz
        cases ed
        cases r with
        | tup fl q =>
          cases r2 with
          | tup fl2 q2 => exact ⟨_, _, _, _, rfl, .inr ⟨fl.sq, fl2.sq, k _ (wk_zipT fl q (by rw [q.length]; exact hz) fl2 q2)⟩⟩
      · cases ed
    · cases ed
end
end VH
set_option Elab.async false
set_option linter.all false
set_option maxRecDepth 100000
set_option maxHeartbeats 4000000
namespace VH
open PySem PySem.Spec PyProof.Rows L2
/-! ### sorted -/
theorem lt_trans : ∀ {a b c : List Nat}, ltCps a b = true → ltCps b c = true → ltCps a c = true := by
  intro a
  induction a with
  | nil =>
    intro b c h1 h2
    cases b with
    | nil => simp [ltCps] at h1
    | cons x b => cases c with
      | nil => simp [ltCps] at h2
      | cons y c => simp [ltCps]
  | cons x a ih =>
    intro b c h1 h2
    cases b with
    | nil => simp [ltCps] at h1
    | cons y b => cases c with
      | nil => simp [ltCps] at h2
      | cons z c =>
        simp only [ltCps, Bool.or_eq_true, Bool.and_eq_true, decide_eq_true_eq, beq_iff_eq] at h1 h2 ⊢
        rcases h1 with h1 | ⟨h1, g1⟩ <;> rcases h2 with h2 | ⟨h2, g2⟩
        · left; omega
        · left; omega
        · left; omega
        · right; exact ⟨by omega, ih g1 g2⟩
theorem lt_tri : ∀ {a b : List Nat}, ltCps a b = false → ltCps b a = false → a = b := by
  intro a
  induction a with
  | nil => intro b h1 h2; cases b with
    | nil => rfl
    | cons y b => simp [ltCps] at h1
  | cons x a ih =>
    intro b h1 h2
    cases b with
    | nil => simp [ltCps] at h2
    | cons y b =>
      simp only [ltCps, Bool.or_eq_false_iff, Bool.and_eq_false_iff, decide_eq_false_iff_not, beq_eq_false_iff_ne] at h1 h2
      have e : x = y := by omega
      subst e
      rw [ih (h1.2.resolve_left fun q => q rfl) (h2.2.resolve_left fun q => q rfl)]
def leS (a b : Str) : Bool := !ltCps b.cps.toList a.cps.toList
theorem leS_trans (a b c : Str) (h1 : leS a b = true) (h2 : leS b c = true) : leS a c = true := by
  unfold leS at *
  rw [Bool.not_eq_true'] at *
  cases h : ltCps c.cps.toList a.cps.toList with
  | false => rfl
  | true =>
    cases h3 : ltCps a.cps.toList b.cps.toList with
    | true => rw [lt_trans h h3] at h2; exact h2
    | false =>
      have e := lt_tri h3 h1
      rw [e] at h
      rw [h] at h2
      exact h2
theorem lt_irr : ∀ a : List Nat, ltCps a a = false
  | [] => rfl
  | x :: a => by simp [ltCps, lt_irr a]
theorem leS_total (a b : Str) : (leS a b || leS b a) = true := by
  unfold leS
  cases h : ltCps b.cps.toList a.cps.toList with
  | false => rfl
  | true => cases h2 : ltCps a.cps.toList b.cps.toList with
    | false => rfl
    | true => have := lt_trans h h2; rw [lt_irr] at this; cases this
theorem leS_anti (a b : Str) (h1 : leS a b = true) (h2 : leS b a = true) : a = b := by
  unfold leS at h1 h2
  rw [Bool.not_eq_true'] at h1 h2
  have e := lt_tri h2 h1
  obtain ⟨⟨a⟩⟩ := a
  obtain ⟨⟨b⟩⟩ := b
  cases e
  rfl
theorem rising_pw : ∀ (xs : List Str) (p : Str), risingS p xs = true → (p :: xs).Pairwise fun a b => leS a b = true
  | [], p, _ => List.pairwise_singleton _ _
  | x :: r, p, h => by
    unfold risingS at h
    rw [Bool.and_eq_true] at h
    have ih := rising_pw r x h.2
    refine List.pairwise_cons.mpr ⟨fun y hy => ?_, ih⟩
    rcases List.mem_cons.mp hy with rfl | hy
    · exact h.1
    · exact leS_trans p x y h.1 ((List.pairwise_cons.mp ih).1 y hy)
theorem sortedS_pw : ∀ xs : List Str, sortedS xs = true → xs.Pairwise fun a b => leS a b = true
  | [], _ => .nil
  | x :: r, h => rising_pw r x h
def sortS (xs : List Str) : List Str := xs.mergeSort leS
theorem sortS_eq {xs ys : List Str} (p : ys.Perm xs) (h : sortedS ys = true) : ys = sortS xs :=
  List.Perm.eq_of_pairwise (fun a b _ _ => leS_anti a b) (sortedS_pw ys h) (List.pairwise_mergeSort leS_trans leS_total xs) (p.trans (List.mergeSort_perm xs leS).symm)
theorem sortS_id {xs : List Str} (h : sortedS xs = true) : sortS xs = xs := (sortS_eq (.refl xs) h).symm
def sortZ (xs : List Int) : List Int := xs.mergeSort fun a b => decide (a ≤ b)
theorem sortZ_eq {xs ys : List Int} (p : ys.Perm xs) (h : ys.Pairwise (· ≤ ·)) : ys = sortZ xs :=
  List.Perm.eq_of_pairwise (le := fun a b : Int => a ≤ b) (fun a b _ _ h1 h2 => Int.le_antisymm h1 h2) h ((List.pairwise_mergeSort (le := fun a b : Int => decide (a ≤ b)) (fun a b c h1 h2 => by simp at *; omega) (fun a b => by simp; omega) xs).imp fun h => by simpa using h) (p.trans (List.mergeSort_perm xs _).symm)
theorem sortZ_id {xs : List Int} (h : xs.Pairwise (· ≤ ·)) : sortZ xs = xs := (sortZ_eq (.refl xs) h).symm
def intsO : List D → Option (List Int)
  | [] => some []
  | .int x :: r => (intsO r).map (x :: ·)
  | _ => none
theorem RepA.intsO {K : PySem.W.Frag} {H : Hp} {F : FA} : ∀ {ds : List D} {bs : List Int} {vs : List V}, RepA K H F vs ds → VH.intsO ds = some bs → vs = bs.map V.int
  | [], bs, _, .nil, e => by cases e; rfl
  | .int b :: r, bs, _, .cons h t, e => by
    unfold VH.intsO at e
    obtain ⟨cs, ec, rfl⟩ := Option.map_eq_some_iff.mp e
    cases h
    rw [RepA.intsO t ec]
    rfl
  | .none :: _, _, _, _, e => by cases e
  | .str _ :: _, _, _, _, e => by cases e
  | .bool _ :: _, _, _, _, e => by cases e
  | .list _ :: _, _, _, _, e => by cases e
  | .tuple _ :: _, _, _, _, e => by cases e
  | .dict _ :: _, _, _, _, e => by cases e
theorem repA_strs {K : PySem.W.Frag} {H : Hp} {F : FA} : ∀ ns : List Str, RepA K H F (ns.map V.str) (ns.map .str)
  | [] => .nil
  | n :: ns => .cons (.str n) (repA_strs ns)
section
variable {X : Cx}
def sortSD : List D → Option D
  | [.list ds] => if ds.length < 64 then (strsD ds).map fun xs => .list ((sortS xs).map .str) else none
  | _ => none
theorem cd_sortS : CallD X (.builtin "sorted") sortSD := .of cr_sortedS fun H F vs ds d Q r e g => by
  unfold sortSD at e
  split at e
  · split at e
    · rename_i h6
      obtain ⟨bs, eb, rfl⟩ := Option.map_eq_some_iff.mp e
      obtain ⟨v, rfl, q0⟩ := r.one
      cases q0 with
      | lst fl q =>
        have ev := RepA.strs q eb
        subst ev
        refine ⟨_, bs, rfl, .inl (.inl fl.2), by have := q.length; rw [List.length_map] at this; omega, fun ys p hp hs hn => ?_⟩
        rw [sortS_eq hp hs]
        exact g _ _ _ (Nw.lay hn) (.lst ⟨.inr rfl, upd_same⟩ (repA_strs _))
    · cases e
  · cases e
def sortZD : List D → Option D
  | [.list ds] => if ds.length < 64 then (VH.intsO ds).map fun xs => .list ((sortZ xs).map .int) else none
  | _ => none
theorem cd_sortZ : CallD X (.builtin "sorted") sortZD := .of cr_sorted fun H F vs ds d Q r e g => by
  unfold sortZD at e
  split at e
  · split at e
    · rename_i h6
      obtain ⟨bs, eb, rfl⟩ := Option.map_eq_some_iff.mp e
      obtain ⟨v, rfl, q0⟩ := r.one
      cases q0 with
      | lst fl q =>
        have ev := RepA.intsO q eb
        subst ev
        refine ⟨_, bs, rfl, .inl (.inl fl.2), by have := q.length; rw [List.length_map] at this; omega, fun ys p hp hs hn => ?_⟩
        rw [sortZ_eq hp hs]
        exact g _ _ _ (Nw.lay hn) (.lst ⟨.inr rfl, upd_same⟩ (repA_ints _))
    · cases e
  · cases e
/-- the keys of a dict of text keys -/
def keysS : List (D × D) → Option (List Str)
  | [] => some []
  | (.str x, _) :: r => (keysS r).map (x :: ·)
  | _ => none
theorem RepK.keysS {K : PySem.W.Frag} {H : Hp} {F : FA} : ∀ {ds : List (D × D)} {bs : List Str} {vs : List (Key × V)}, RepK K H F vs ds → VH.keysS ds = some bs → vs.map (·.1) = bs.map Sum.inr
  | _, bs, _, .nil, e => by cases e; rfl
  | _, bs, _, .cons (k := .inr x) h t, e => by
    obtain ⟨cs, ec, rfl⟩ := Option.map_eq_some_iff.mp (show (VH.keysS _).map (x :: ·) = some bs from e)
    rw [List.map_cons, RepK.keysS t ec]
    rfl
  | _, bs, _, .cons (k := .inl i) h t, e => nomatch (show (none : Option (List Str)) = some bs from e)
def sortDD : List D → Option D
  | [.dict ds] => if ds.length < 64 then (VH.keysS ds).map fun xs => .list ((sortS xs).map .str) else none
  | _ => none
theorem keysS_len : ∀ {ds : List (D × D)} {bs : List Str}, VH.keysS ds = some bs → bs.length = ds.length
  | [], bs, e => by cases e; rfl
  | (d, v) :: r, bs, e => by
    cases d with
    | str x =>
      obtain ⟨cs, ec, rfl⟩ := Option.map_eq_some_iff.mp (show (VH.keysS r).map (x :: ·) = some bs from e)
      rw [List.length_cons, List.length_cons, keysS_len ec]
    | _ => exact nomatch (show (none : Option (List Str)) = some bs from e)
theorem cd_sortD (hc : X.calm = true) : CallD X (.builtin "sorted") sortDD := .of (call_sortedD hc) fun H F vs ds d Q r e g => by
  unfold sortDD at e
  split at e
  · split at e
    · rename_i h6
      obtain ⟨bs, eb, rfl⟩ := Option.map_eq_some_iff.mp e
      obtain ⟨v, rfl, q0⟩ := r.one
      cases q0 with
      | dic fk q =>
        refine ⟨_, _, bs, rfl, fk.2, RepK.keysS q eb, by rw [keysS_len eb]; exact h6, fun ys p hp hs hn => ?_⟩
        rw [sortS_eq hp hs]
        exact g _ _ _ (Nw.lay hn) (.lst ⟨.inr rfl, upd_same⟩ (repA_strs _))
    · cases e
  · cases e
end
/-! ### xs[i] = v of an owned list -/
def sLput (i : Nat) (fk : En → Rs D) (fe : En → Rs D) : En → Rs Fl := fun env₀ => (bnd fe fun d env => match env[i]? with
  | some (some (.lst _)) => bnd fk (fun k env => match env[i]?, k with
    | some (some (.lst ds)), .int (.ofNat j) => if j < ds.length then .ok .nx (env.set i (some (.lst (ds.set j d)))) else .bad
    | _, _ => .bad) env
  | _ => .bad) env₀
theorem ixN_lt {n j : Nat} (hj : j < n) : ixN n (.ofNat j) = some j := by
  show (if (0 : Int) ≤ (j : Int) then (if (j : Int) < n then some (j : Int).toNat else none) else if -(n : Int) ≤ (j : Int) then some ((j : Int) + n).toNat else none) = _
  rw [if_pos (Int.natCast_nonneg j), if_pos (show (j : Int) < n by omega)]
  rfl
theorem RepA.setAt {K : PySem.W.Frag} {H : Hp} {F : FA} {v : V} {d : D} (r : Rep K H F v d) : ∀ {vs : List V} {ds : List D} {j : Nat}, RepA K H F vs ds → RepA K H F (vs.set j v) (ds.set j d)
  | _, _, _, .nil => .nil
  | _, _, 0, .cons h t => .cons r t
  | _, _, j + 1, .cons h t => .cons h (RepA.setAt r t)
section
variable {X : Cx} {W : WX} {B : Bx} {e : Expr} {pos : Pos}
theorem psd_lput (i : Nat) {x : Str} {p2 pos' : Pos} {b : Expr} {fk fe : En → Rs D} (hb : PE X b (tD (gx X) W fk)) (he : PE X e (tD (gx X) W fe)) (hN : X.N[i]? = some x := by rfl) (hv : Vis X.env.scope x := by first | exact Or.inl rfl | exact Or.inr (Or.inl rfl) | exact Or.inr (Or.inr rfl)) (hd : (x == ("__debug__" : Str)) = false := by decide)
    (hcd : (x == ("__classdict__" : Str)) = false := by decide) (hs : swapsWithSole [.Subscript (.Name x p2) b pos'] e pos.line X.env = pure false := by rfl) (hw : swappedStores [.Subscript (.Name x p2) b pos'] e X.env = pure none := by rfl)
    (h1 : (assignEach [.Subscript (.Name x p2) b pos'] X.env).map (·.2) = [assign (.Subscript (.Name x p2) b pos') X.env] := by rfl)
    (ha : ∀ v, assign (.Subscript (.Name x p2) b pos') X.env v = (do
      let ov ← holding [v] (eval (.Name x p2) X.env)
      let iv ← holding [v, ov] (eval b X.env)
      standAt pos'
      holding [v, ov, iv] (setItem ov iv v)
      release [v, ov, iv] []) := by intro _; rfl) : PS X (.Assign [.Subscript (.Name x p2) b pos'] e pos) (tS (gx X) W B (sLput i fk fe)) :=
  PS.imp (ps_asg he (pg_sub (pe_var hN hv hd hcd) hb set_list ha) hs hw h1) fun N σ H ⟨p, env, F, fp, s, h⟩ => by
    refine ⟨env, F, fp, s, Out.mono (OutS.bind p h) fun d env1 H1 F1 fp1 t1 s1 h1 v r => ?_⟩
    split at h1
    · rename_i ds0 he0
      obtain ⟨w, _, _, ew, _, _, _, _⟩ := pv_of s1.re he0
      refine ⟨w, ew, env1, F1, fp1, s1, Out.mono (OutS.bind p h1) fun k env2 H2 F2 fp2 t2 s2 h2 y ry => ?_⟩
      split at h2
      · rename_i ds j he2
        split at h2
        · rename_i hj
          obtain ⟨a, xs, e1, hga, q, kk⟩ := lst_write (es := ds.set j d) s2 he2
          rw [ew] at e1
          cases e1
          cases ry
          have rv : Rep X.K H2 F2 v d := r.tr s1.re t2
          obtain ⟨fp', t', s'⟩ := kk (xs.set j v) (RepA.setAt rv q)
          exact ⟨a, xs, _, j, rfl, rfl, hga, by rw [q.length]; exact ixN_lt hj, h2 σ _ F2 fp' p t' s'⟩
        · exact h2.elim
      · exact h2.elim
    · exact h1.elim
end
end VH
set_option Elab.async false
set_option linter.all false
set_option maxRecDepth 100000
set_option maxHeartbeats 4000000
namespace VH
open PySem PySem.Spec PyProof.Rows L2

/-! ### pure readings: nothing but frozen things is read, the slots stay -/
inductive Pr (α : Type) where
  | ok (a : α)
  | exc (x : Xc)
  | bad
def Pr.bind {α β : Type} (r : Pr α) (g : α → Pr β) : Pr β := match r with
  | .ok a => g a
  | .exc x => .exc x
  | .bad => .bad
def Pr.lift {α : Type} (o : Option α) : Pr α := match o with
  | some a => .ok a
  | none => .bad
theorem Pr.bind_ok {α β : Type} {a : α} {g : α → Pr β} : Pr.bind (.ok a) g = g a := rfl
theorem Pr.lift_some {α : Type} {a : α} : Pr.lift (some a) = .ok a := rfl
def shS : Option O → Option O
  | some (.sh d) => some (.sh d)
  | some (.scr ns) => some (.scr ns)
  | _ => none
def shE (env : En) : En := env.map shS
def eP {α : Type} (f : En → Pr α) : En → Rs α := fun env => match f (shE env) with
  | .ok a => .ok a env
  | .exc x => .exc x env
  | .bad => .bad
def pOf {α : Type} (g : En → Rs α) : En → Pr α := fun env => match g env with
  | .ok a _ => .ok a
  | .exc x _ => .exc x
  | .bad => .bad
theorem shS_shS (o : Option O) : shS (shS o) = shS o := by
  cases o with
  | none => rfl
  | some o => cases o <;> rfl
theorem shE_shE (env : En) : shE (shE env) = shE env := by
  unfold shE
  rw [List.map_map]
  exact List.map_congr_left fun o _ => shS_shS o
theorem shE_length (env : En) : (shE env).length = env.length := List.length_map ..
theorem shE_get (env : En) (i : Nat) : (shE env)[i]? = (env[i]?).map shS := List.getElem?_map ..
theorem shE_set (env : En) (i : Nat) (o : Option O) : shE (env.set i o) = (shE env).set i (shS o) := by
  unfold shE
  rw [List.map_set]
section
variable {K : PySem.W.Frag} {H : Hp} {F : FA}
theorem REnv.shE : ∀ {σ : Sg} {env : En} {fp : List Addr}, REnv K H F σ env fp → REnv K H F σ (VH.shE env) []
  | _, _, _, .nil => .nil
  | _, _, _, .cons h t d => by
    refine .cons (f1 := []) ?_ (REnv.shE t) fun _ q => nomatch q
    cases h with
    | no => exact .no
    | yes r => cases r with
      | sh r => exact .yes (.sh r)
      | scr r => exact .yes (.scr r)
      | lst _ _ _ => exact .no
      | dic _ _ _ _ => exact .no
theorem REnv.sh0 : ∀ {σ : Sg} {env : En} {fp : List Addr}, REnv K H F σ env fp → fp = [] → VH.shE env = env
  | _, _, _, .nil, _ => rfl
  | _, _, _, .cons (o := o) h t d, e => by
    obtain ⟨e1, e2⟩ := List.append_eq_nil_iff.mp e
    show shS o :: VH.shE _ = _
    rw [REnv.sh0 t e2]
    congr 1
    cases h with
    | no => rfl
    | yes r => cases r with
      | sh r => rfl
      | scr r => rfl
      | lst _ _ _ => cases e1
      | dic _ _ _ _ => cases e1
end
theorem Sta.shE {K : PySem.W.Frag} {H : Hp} {F : FA} {σ : Sg} {env : En} {fp : List Addr} (s : Sta K H F σ env fp) : Sta K H F σ (VH.shE env) [] := ⟨s.re.shE, s.fo⟩
theorem Sta.sh0 {K : PySem.W.Frag} {H : Hp} {F : FA} {σ : Sg} {env : En} (s : Sta K H F σ env []) : VH.shE env = env := s.re.sh0 rfl
theorem Nw.of {H H' : Hp} {F F' : FA} {fp' : List Addr} (t : Tr [] H F H' F' fp') (h : Fo H' F') : Nw H F H' F' := ⟨fun a u e => t.keep a u e (fun q => nomatch q), t.froz, fun _ => h⟩
def OutP {α : Type} (G : Gx) (W : WX) (σ : Sg) (H : Hp) (F : FA) (r : Pr α) (P : α → Hp → FA → Prop) : Prop := match r with
  | .ok a => ∀ H' F', Nw H F H' F' → P a H' F'
  | .exc x => ∀ H' F' c o, Nw H F H' F' → RX G H' F' c o x → W c o σ H'
  | .bad => False
section
variable {G : Gx} {W : WX} {σ : Sg} {fp : List Addr} {H : Hp} {F : FA} {α : Type} {env : En}
theorem OutP.up {f : En → Pr α} {P : α → En → Hp → FA → List Addr → Prop} (s : Sta G.K H F σ env fp) (h : Out G W σ fp H F (eP f env) P) : OutP G W σ H F (f (shE env)) fun a H' F' => P a env H' F' fp := by
  unfold eP at h
  cases e : f (shE env) with
  | ok a => rw [e] at h; exact fun H' F' n => h H' F' fp n.tr (n.sta s)
  | exc x => rw [e] at h; exact fun H' F' c o n r => h H' F' fp c o n.tr (n.sta s) r
  | bad => rw [e] at h; exact h
theorem OutP.down {g : En → Rs α} {P : α → Hp → FA → Prop} (h : OutP G W σ H F (pOf g env) P) : Out G W σ [] H F (g env) fun a _ H' F' _ => P a H' F' := by
  unfold pOf at h
  cases e : g env with
  | ok a env' => rw [e] at h; exact fun H' F' fp' t s => h H' F' (Nw.of t s.fo)
  | exc x env' => rw [e] at h; exact fun H' F' fp' c o t s r => h H' F' c o (Nw.of t s.fo) r
  | bad => rw [e] at h; exact h
end
def tPD (G : Gx) (W : WX) (f : En → Pr D) : TE := fun σ H Q => ∃ env F, Sta G.K H F σ env [] ∧ OutP G W σ H F (f env) fun d H' F' => ∀ v, Rep G.K H' F' v d → Q v H'
def tPT (G : Gx) (W : WX) (f : En → Pr Bool) : TT := fun σ H Q => ∃ env F, Sta G.K H F σ env [] ∧ OutP G W σ H F (f env) fun b H' F' => Q b H'
def tPAs (G : Gx) (W : WX) (f : En → Pr (List D)) : TA := fun σ H Q => ∃ env F, Sta G.K H F σ env [] ∧ OutP G W σ H F (f env) fun ds H' F' => ∀ vs, RepA G.K H' F' vs ds → Q vs H'
def tPI (G : Gx) (W : WX) (f : En → Pr (List D)) : TI := fun σ H R => ∃ env F, Sta G.K H F σ env [] ∧ OutP G W σ H F (f env) fun items H' F' => ∀ J, Wk G.K J H' F' items → R J H'
def tPPt (G : Gx) (W : WX) (f : En → Pr (Option Int)) : TO := fun σ H Q => ∃ env F, Sta G.K H F σ env [] ∧ OutP G W σ H F (f env) fun d H' F' => Q d H'
section
variable {X : Cx} {W : WX} {e : Expr}
/-! up: a pure reading as a step of the slots' work -/
theorem pd_P {f : En → Pr D} (h : PE X e (tPD (gx X) W f)) : PE X e (tD (gx X) W (eP f)) := PE.imp h fun σ H Q ⟨env, F, fp, s, h⟩ => ⟨shE env, F, s.shE, OutP.up s h⟩
theorem ptd_P {f : En → Pr Bool} (h : PT X e (tPT (gx X) W f)) : PT X e (tT (gx X) W (eP f)) := PT.imp h fun σ H Q ⟨env, F, fp, s, h⟩ => ⟨shE env, F, s.shE, OutP.up s h⟩
theorem pwd_P {f : En → Pr Bool} (h : PW X e (tPT (gx X) W f)) : PW X e (tT (gx X) W (eP f)) := PW.imp h fun σ H Q ⟨env, F, fp, s, h⟩ => ⟨shE env, F, s.shE, OutP.up s h⟩
theorem pad_P {es : List Expr} {f : En → Pr (List D)} (h : PA X es (tPAs (gx X) W f)) : PA X es (tAs (gx X) W (eP f)) := PA.imp h fun σ H Q ⟨env, F, fp, s, h⟩ => ⟨shE env, F, s.shE, OutP.up s h⟩
theorem pid_P {tg : Expr} {f : En → Pr (List D)} (h : PI X tg e (tPI (gx X) W f)) : PI X tg e (tI (gx X) W (eP f)) := PI.imp h fun σ H Q ⟨env, F, fp, s, h⟩ => ⟨shE env, F, s.shE, OutP.up s h⟩
theorem pod_P {o : Option Expr} {f : En → Pr (Option Int)} (h : PO X o (tPPt (gx X) W f)) : PO X o (tPt (gx X) W (eP f)) := PO.imp h fun σ H Q ⟨env, F, fp, s, h⟩ => ⟨shE env, F, s.shE, OutP.up s h⟩
/-! down: a step that leaves nothing but a value -/
abbrev Dn {α : Type} (g : En → Rs α) (f : En → Pr α) : Prop := ∀ env, shE env = env → pOf g env = f env
theorem pp_D {g : En → Rs D} {f : En → Pr D} (h : PE X e (tD (gx X) W g)) (k : Dn g f) : PE X e (tPD (gx X) W f) := PE.imp h fun σ H Q ⟨env, F, s, h⟩ => ⟨env, F, [], s, Out.mono (OutP.down (by rw [k env s.sh0]; exact h)) fun d env1 H1 F1 fp1 _ _ q => q⟩
theorem pp_T {g : En → Rs Bool} {f : En → Pr Bool} (h : PT X e (tT (gx X) W g)) (k : Dn g f) : PT X e (tPT (gx X) W f) := PT.imp h fun σ H Q ⟨env, F, s, h⟩ => ⟨env, F, [], s, Out.mono (OutP.down (by rw [k env s.sh0]; exact h)) fun d env1 H1 F1 fp1 _ _ q => q⟩
theorem pp_W {g : En → Rs Bool} {f : En → Pr Bool} (h : PW X e (tT (gx X) W g)) (k : Dn g f) : PW X e (tPT (gx X) W f) := PW.imp h fun σ H Q ⟨env, F, s, h⟩ => ⟨env, F, [], s, Out.mono (OutP.down (by rw [k env s.sh0]; exact h)) fun d env1 H1 F1 fp1 _ _ q => q⟩
theorem pp_As {es : List Expr} {g : En → Rs (List D)} {f : En → Pr (List D)} (h : PA X es (tAs (gx X) W g)) (k : Dn g f) : PA X es (tPAs (gx X) W f) := PA.imp h fun σ H Q ⟨env, F, s, h⟩ => ⟨env, F, [], s, Out.mono (OutP.down (by rw [k env s.sh0]; exact h)) fun d env1 H1 F1 fp1 _ _ q => q⟩
theorem pp_I {tg : Expr} {g : En → Rs (List D)} {f : En → Pr (List D)} (h : PI X tg e (tI (gx X) W g)) (k : Dn g f) : PI X tg e (tPI (gx X) W f) := PI.imp h fun σ H Q ⟨env, F, s, h⟩ => ⟨env, F, [], s, Out.mono (OutP.down (by rw [k env s.sh0]; exact h)) fun d env1 H1 F1 fp1 _ _ q => q⟩
theorem pp_O {o : Option Expr} {g : En → Rs (Option Int)} {f : En → Pr (Option Int)} (h : PO X o (tPt (gx X) W g)) (k : Dn g f) : PO X o (tPPt (gx X) W f) := PO.imp h fun σ H Q ⟨env, F, s, h⟩ => ⟨env, F, [], s, Out.mono (OutP.down (by rw [k env s.sh0]; exact h)) fun d env1 H1 F1 fp1 _ _ q => q⟩
end

/-! ### the parts of a pure reading -/
def pVar (i : Nat) : En → Pr D := fun env => match env[i]? with
  | some (some (.sh d)) => .ok d
  | _ => .bad
def pC (d : D) : En → Pr D := fun _ => .ok d
def pBin (op : D → D → Option D) (fa fb : En → Pr D) : En → Pr D := fun env => (fa env).bind fun x => (fb env).bind fun y => .lift (op x y)
def pChain (o1 o2 : D → D → Option D) (fa fb fc : En → Pr D) : En → Pr D := fun env => (fa env).bind fun x => (fb env).bind fun y => (Pr.lift (o1 x y)).bind fun r => match r with
  | .bool true => (fc env).bind fun z => .lift (o2 y z)
  | .bool false => .ok (.bool false)
  | _ => .bad
def pUn (op : D → Option D) (f : En → Pr D) : En → Pr D := fun env => (f env).bind fun d => .lift (op d)
def pMap (op : D → D) (f : En → Pr D) : En → Pr D := fun env => (f env).bind fun d => .ok (op d)
def pB (f : En → Pr D) : En → Pr Bool := fun env => (f env).bind fun d => .lift (blD d)
def pTru (f : En → Pr D) : En → Pr Bool := fun env => (f env).bind fun d => .lift (truD d)
def pNN (f : En → Pr D) : En → Pr Bool := fun env => (f env).bind fun d => .ok (isN d)
def pNNo (f : En → Pr D) : En → Pr Bool := fun env => (f env).bind fun d => .ok (!isN d)
def pAnd (f g : En → Pr Bool) : En → Pr Bool := fun env => (f env).bind fun b => if b = true then g env else .ok false
def pOr (f g : En → Pr Bool) : En → Pr Bool := fun env => (f env).bind fun b => if b = true then .ok true else g env
def pNot (f : En → Pr Bool) : En → Pr Bool := fun env => (f env).bind fun b => .ok (!b)
def pAndV (f g : En → Pr D) : En → Pr D := fun env => (pB f env).bind fun b => if b = true then g env else .ok (.bool false)
def pOrV (f g : En → Pr D) : En → Pr D := fun env => (pB f env).bind fun b => if b = true then .ok (.bool true) else g env
def pNotV (f : En → Pr D) : En → Pr D := fun env => (pB f env).bind fun b => .ok (.bool (!b))
def pIf (c : En → Pr Bool) (f g : En → Pr D) : En → Pr D := fun env => (c env).bind fun b => if b = true then f env else g env
def pNil : En → Pr (List D) := fun _ => .ok []
def pCons (f : En → Pr D) (g : En → Pr (List D)) : En → Pr (List D) := fun env => (f env).bind fun d => (g env).bind fun ds => .ok (d :: ds)
def pAll (op : List D → Option D) (g : En → Pr (List D)) : En → Pr D := fun env => (g env).bind fun ds => .lift (op ds)
def pPart (f : En → Pr D) : En → Pr (Option Int) := fun env => (f env).bind fun d => .lift (ixI d)
def pPart0 : En → Pr (Option Int) := fun _ => .ok none
def pSl (f : En → Pr D) (l u : En → Pr (Option Int)) : En → Pr D := fun env => (f env).bind fun d => (l env).bind fun lo => (u env).bind fun hi => .lift (slD lo hi d)
def pM1 (op : Str → D → Option D) (f g : En → Pr D) : En → Pr D := fun env => (f env).bind fun a => (Pr.lift (strD a)).bind fun x => (g env).bind fun b => .lift (op x b)
def pSeq (op : D → Option (List D)) (f : En → Pr D) : En → Pr (List D) := fun env => (f env).bind fun d => .lift (op d)
def pSeq2 (op : D → D → Option (List D)) (f g : En → Pr D) : En → Pr (List D) := fun env => (f env).bind fun d => (g env).bind fun e => .lift (op d e)
section
variable {X : Cx} {W : WX} {e a b : Expr} {es rest : List Expr} {pos : Pos} {p q r : En → Pr D} {f g : En → Pr Bool} {l : En → Pr (List D)}
theorem sh_get {env : En} (hs : shE env = env) {i : Nat} {o : O} (h : env[i]? = some (some o)) : (∃ d, o = .sh d) ∨ ∃ ns, o = .scr ns := by
  have e := shE_get env i
  rw [hs, h] at e
  cases o with
  | sh d => exact .inl ⟨d, rfl⟩
  | scr ns => exact .inr ⟨ns, rfl⟩
  | lst _ => cases e
  | dic _ => cases e
theorem pp_var (i : Nat) {x : Str} (hN : X.N[i]? = some x := by rfl) (hv : Vis X.env.scope x := by first | exact Or.inl rfl | exact Or.inr (Or.inl rfl) | exact Or.inr (Or.inr rfl)) (hd : (x == ("__debug__" : Str)) = false := by decide)
    (hcd : (x == ("__classdict__" : Str)) = false := by decide) : PE X (.Name x pos) (tPD (gx X) W (pVar i)) := pp_D (pd_var i hN hv hd hcd) fun env hs => by
  unfold pOf eVar pVar
  cases h : env[i]? with
  | none => rfl
  | some o => cases o with
    | none => rfl
    | some o =>
      rcases sh_get hs h with ⟨d, rfl⟩ | ⟨d, rfl⟩
      · simp only [O.fzb, if_true, fz]
      · simp only [O.fzb, if_false, Bool.false_eq_true]
theorem dn_C {d : D} : Dn (eC d) (pC d) := fun _ _ => rfl
theorem pp_int {i : Int} {j} : PE X (.Constant (.int i) j pos) (tPD (gx X) W (pC (.int i))) := pp_D pd_int dn_C
theorem pp_str {i : Str} {j} : PE X (.Constant (.str i) j pos) (tPD (gx X) W (pC (.str i))) := pp_D pd_str dn_C
theorem pp_bl {i : Bool} {j} : PE X (.Constant (.bool i) j pos) (tPD (gx X) W (pC (.bool i))) := pp_D pd_bl dn_C
theorem pp_non {j} : PE X (.Constant .none j pos) (tPD (gx X) W (pC .none)) := pp_D pd_non dn_C
theorem pp_gint {x : Str} {i : Int} (hg : Gl X x) (hm : ∃ t, X.mg x = some (.int i t)) (hd : (x == ("__debug__" : Str)) = false := by decide) : PE X (.Name x pos) (tPD (gx X) W (pC (.int i))) := pp_D (pd_gint hg hm hd) dn_C
theorem pp_gstr {x : Str} {i : Str} (hg : Gl X x) (hm : ∃ t, X.mg x = some (.str i t)) (hd : (x == ("__debug__" : Str)) = false := by decide) : PE X (.Name x pos) (tPD (gx X) W (pC (.str i))) := pp_D (pd_gstr hg hm hd) dn_C
end
end VH
set_option Elab.async false
set_option linter.all false
set_option maxRecDepth 100000
set_option maxHeartbeats 4000000
namespace VH
open PySem PySem.Spec PyProof.Rows L2
/-! ### the parts, as rules -/
theorem eP_def {α : Type} {f : En → Pr α} {env : En} (hs : shE env = env) : eP f env = match f env with
  | .ok a => .ok a env
  | .exc x => .exc x env
  | .bad => .bad := by unfold eP; rw [hs] <;> cases f env <;> rfl
section
variable {env : En} {f g : En → Pr D} {b c : En → Pr Bool} {l m : En → Pr (List D)} {u v : En → Pr (Option Int)}
theorem pOf_bnd {α β : Type} {f : En → Pr α} {k : α → En → Rs β} (hs : shE env = env) : pOf (bnd (eP f) k) env = (f env).bind fun a => pOf (k a) env := by
  unfold pOf bnd
  rw [eP_def hs]
  cases f env <;> rfl
theorem pOf_bndB {β : Type} {f : En → Pr D} {k : Bool → En → Rs β} (hs : shE env = env) : pOf (bnd (eB (eP f)) k) env = (pB f env).bind fun a => pOf (k a) env := by
  unfold pOf bnd eB pB bnd lift
  rw [eP_def hs]
  cases f env with
  | ok d =>
    dsimp only [Pr.bind]
    cases blD d <;> rfl
  | exc x => rfl
  | bad => rfl
theorem pOf_lift {α : Type} {o : Option α} : pOf (lift o) env = Pr.lift o := by
  unfold pOf lift
  cases o <;> rfl
theorem pOf_ret {α : Type} {a : α} : pOf (VH.ret a) env = .ok a := rfl
theorem pOf_eP {α : Type} {f : En → Pr α} (hs : shE env = env) : pOf (eP f) env = f env := by
  unfold pOf
  rw [eP_def hs]
  cases f env <;> rfl
end
section
variable {X : Cx} {W : WX} {e a b c : Expr} {es rest : List Expr} {pos : Pos} {p q r : En → Pr D} {f g : En → Pr Bool} {l : En → Pr (List D)}
theorem pp_bin {o : Operator} {op : D → D → Option D} (ho : OpD X (binaryOp o) op) (ha : PE X a (tPD (gx X) W p)) (hb : PE X b (tPD (gx X) W q)) : PE X (.BinOp a o b pos) (tPD (gx X) W (pBin op p q)) :=
  pp_D (pd_bin ho (pd_P ha) (pd_P hb)) fun env hs => by unfold eBin pBin; simp only [pOf_bnd hs, pOf_lift]
theorem pp_cmp {o : CmpOp} {op : D → D → Option D} (ho : OpD X (compareOp o) op) (ha : PE X a (tPD (gx X) W p)) (hb : PE X b (tPD (gx X) W q)) (hm : behindInMarks o b = false) : PE X (.Compare a [o] [b] pos) (tPD (gx X) W (pBin op p q)) :=
  pp_D (pd_cmp ho (pd_P ha) (pd_P hb) hm) fun env hs => by unfold eBin pBin; simp only [pOf_bnd hs, pOf_lift]
theorem dn_chain {o1 o2 : D → D → Option D} : Dn (eChain o1 o2 (eP p) (eP q) (eP r)) (pChain o1 o2 p q r) := fun env hs => by
  unfold eChain pChain
  simp only [pOf_bnd hs]
  congr 1; funext x; congr 1; funext y
  show pOf (bnd (lift (o1 x y)) _) env = _
  cases o1 x y with
  | none => rfl
  | some d =>
    cases d with
    | bool t =>
      cases t with
      | true =>
        show pOf (bnd (eP r) fun z => lift (o2 y z)) env = (r env).bind fun z => .lift (o2 y z)
        rw [pOf_bnd hs]
        simp only [pOf_lift]
      | false => rfl
    | none => rfl
    | int _ => rfl
    | str _ => rfl
    | list _ => rfl
    | tuple _ => rfl
    | dict _ => rfl
theorem pp_chain {op op' : CmpOp} {o1 o2 : D → D → Option D} (ho : OpD X (compareOp op) o1) (ho' : OpD X (compareOp op') o2) (ha : PE X a (tPD (gx X) W p)) (hb : PE X b (tPD (gx X) W q)) (hc : PE X c (tPD (gx X) W r)) (hm : lastMarks [op, op'] [b, c] = false := by with_unfolding_all rfl) : PE X (.Compare a [op, op'] [b, c] pos) (tPD (gx X) W (pChain o1 o2 p q r)) :=
  pp_D (pd_chain ho ho' (pd_P ha) (pd_P hb) (pd_P hc) hm) dn_chain
theorem pp_isN {j pos'} (h : PE X a (tPD (gx X) W p)) : PE X (.Compare a [.Is] [.Constant .none j pos'] pos) (tPD (gx X) W (pMap (fun d => .bool (isN d)) p)) := pp_D (pd_isN (pd_P h)) fun env hs => by unfold eIsN pMap; simp only [pOf_bnd hs, pOf_ret]
theorem pp_notN {j pos'} (h : PE X a (tPD (gx X) W p)) : PE X (.Compare a [.IsNot] [.Constant .none j pos'] pos) (tPD (gx X) W (pMap (fun d => .bool (!isN d)) p)) := pp_D (pd_notN (pd_P h)) fun env hs => by unfold eNotN pMap; simp only [pOf_bnd hs, pOf_ret]
theorem pp_un {o : UnaryOp} {op : D → Option D} (ho : UnD X (unaryOp o) op) (h : PE X a (tPD (gx X) W p)) : PE X (.UnaryOp o a pos) (tPD (gx X) W (pUn op p)) := pp_D (pd_un ho (pd_P h)) fun env hs => by unfold eUn pUn; simp only [pOf_bnd hs, pOf_lift]
theorem pp_one {op} (h : PE X a (tPD (gx X) W p)) : PE X (.BoolOp op [a] pos) (tPD (gx X) W p) := pe_one h
theorem pp_and (h : PE X a (tPD (gx X) W p)) (h2 : PE X (.BoolOp .And (b :: rest) pos) (tPD (gx X) W q)) : PE X (.BoolOp .And (a :: b :: rest) pos) (tPD (gx X) W (pAndV p q)) := pp_D (pd_and (pd_P h) (pd_P h2)) fun env hs => by
  unfold eAndV pAndV
  rw [pOf_bndB hs]
  congr 1; funext z
  cases z with
  | true => exact pOf_eP hs
  | false => rfl
theorem pp_or (h : PE X a (tPD (gx X) W p)) (h2 : PE X (.BoolOp .Or (b :: rest) pos) (tPD (gx X) W q)) : PE X (.BoolOp .Or (a :: b :: rest) pos) (tPD (gx X) W (pOrV p q)) := pp_D (pd_or (pd_P h) (pd_P h2)) fun env hs => by
  unfold eOrV pOrV
  rw [pOf_bndB hs]
  congr 1; funext z
  cases z with
  | true => rfl
  | false => exact pOf_eP hs
theorem pp_not (h : PE X a (tPD (gx X) W p)) : PE X (.UnaryOp .Not a pos) (tPD (gx X) W (pNotV p)) := pp_D (pd_not (pd_P h)) fun env hs => by
  unfold eNotV pNotV
  rw [pOf_bndB hs]
  rfl
theorem pp_if (hc : PT X c (tPT (gx X) W f)) (ha : PE X a (tPD (gx X) W p)) (hb : PE X b (tPD (gx X) W q)) : PE X (.IfExp c a b pos) (tPD (gx X) W (pIf f p q)) := pp_D (pd_if (ptd_P hc) (pd_P ha) (pd_P hb)) fun env hs => by
  unfold eIf pIf
  rw [pOf_bnd hs]
  congr 1; funext z
  cases z with
  | true => exact pOf_eP hs
  | false => exact pOf_eP hs
/-! tests -/
theorem pOf_eB {g : En → Rs D} {env : En} : pOf (eB g) env = (pOf g env).bind fun d => .lift (blD d) := by
  unfold pOf eB bnd lift
  cases g env with
  | ok d e =>
    dsimp only [Pr.bind]
    cases blD d <;> rfl
  | exc x e => rfl
  | bad => rfl
theorem dn_bin {op : D → D → Option D} : Dn (eBin op (eP p) (eP q)) (pBin op p q) := fun env hs => by unfold eBin pBin; simp only [pOf_bnd hs, pOf_lift]
theorem dn_eB {g : En → Rs D} {h : En → Pr D} (k : Dn g h) : Dn (eB g) (pB h) := fun env hs => by rw [pOf_eB, k env hs]; rfl
theorem ptp_cmp {o : CmpOp} {op : D → D → Option D} (ho : OpD X (compareOp o) op) (ha : PE X a (tPD (gx X) W p)) (hb : PE X b (tPD (gx X) W q)) (hm : behindInMarks o b = false) : PT X (.Compare a [o] [b] pos) (tPT (gx X) W (pB (pBin op p q))) :=
  pp_T (ptd_cmp ho (pd_P ha) (pd_P hb) hm) (dn_eB dn_bin)
theorem dn_B : Dn (eB (eP p)) (pB p) := fun env hs => by unfold eB pB; simp only [pOf_bnd hs, pOf_lift]
theorem ptp_val (h : PE X e (tPD (gx X) W p)) (he : ∀ whole, isTrue e X.env whole = (do let v ← whole; standAt e.pos; holding [v] (truthy v)) := by intro _; rfl) : PT X e (tPT (gx X) W (pB p)) := pp_T (ptd_val (pd_P h) he) dn_B
theorem ptp_tru (h : PE X e (tPD (gx X) W p)) (he : ∀ whole, isTrue e X.env whole = (do let v ← whole; standAt e.pos; holding [v] (truthy v)) := by intro _; rfl) : PT X e (tPT (gx X) W (pTru p)) := pp_T (ptd_tru (pd_P h) he) fun env hs => by unfold eTru pTru; simp only [pOf_bnd hs, pOf_lift]
theorem ptp_isN {j pos'} (h : PE X a (tPD (gx X) W p)) : PT X (.Compare a [.Is] [.Constant .none j pos'] pos) (tPT (gx X) W (pNN p)) := pp_T (ptd_isN (pd_P h)) fun env hs => by unfold eNN pNN; simp only [pOf_bnd hs, pOf_ret]
theorem ptp_notN {j pos'} (h : PE X a (tPD (gx X) W p)) : PT X (.Compare a [.IsNot] [.Constant .none j pos'] pos) (tPT (gx X) W (pNNo p)) := pp_T (ptd_notN (pd_P h)) fun env hs => by unfold eNNo pNNo; simp only [pOf_bnd hs, pOf_ret]
theorem pwp_and1 (h : PT X a (tPT (gx X) W f)) : PW X (.BoolOp .And [a] pos) (tPT (gx X) W f) := pw_and1 h
theorem pwp_or1 (h : PT X a (tPT (gx X) W f)) : PW X (.BoolOp .Or [a] pos) (tPT (gx X) W f) := pw_or1 h
theorem pwp_and (h : PT X a (tPT (gx X) W f)) (h2 : PW X (.BoolOp .And (b :: rest) pos) (tPT (gx X) W g)) : PW X (.BoolOp .And (a :: b :: rest) pos) (tPT (gx X) W (pAnd f g)) := pp_W (pwd_and (ptd_P h) (pwd_P h2)) fun env hs => by
  unfold eAnd pAnd
  rw [pOf_bnd hs]
  congr 1; funext z
  cases z with
  | true => exact pOf_eP hs
  | false => rfl
theorem pwp_or (h : PT X a (tPT (gx X) W f)) (h2 : PW X (.BoolOp .Or (b :: rest) pos) (tPT (gx X) W g)) : PW X (.BoolOp .Or (a :: b :: rest) pos) (tPT (gx X) W (pOr f g)) := pp_W (pwd_or (ptd_P h) (pwd_P h2)) fun env hs => by
  unfold eOr pOr
  rw [pOf_bnd hs]
  congr 1; funext z
  cases z with
  | true => rfl
  | false => exact pOf_eP hs
theorem ptp_not (h : PT X a (tPT (gx X) W f)) : PT X (.UnaryOp .Not a pos) (tPT (gx X) W (pNot f)) := pp_T (ptd_not (ptd_P h)) fun env hs => by unfold eNot pNot; simp only [pOf_bnd hs, pOf_ret]
theorem ptp_chain {op op' : CmpOp} {o1 o2 : D → D → Option D} (ho : OpD X (compareOp op) o1) (ho' : OpD X (compareOp op') o2) (ha : PE X a (tPD (gx X) W p)) (hb : PE X b (tPD (gx X) W q)) (hc : PE X c (tPD (gx X) W r)) (hm : lastMarks [op, op'] [b, c] = false := by with_unfolding_all rfl) : PT X (.Compare a [op, op'] [b, c] pos) (tPT (gx X) W (pB (pChain o1 o2 p q r))) :=
  pp_T (ptd_chain ho ho' (pd_P ha) (pd_P hb) (pd_P hc) hm) (dn_eB dn_chain)
/-! arguments, displays, calls -/
theorem pap_nil : PA X [] (tPAs (gx X) W pNil) := pp_As pad_nil fun env hs => rfl
theorem pap_cons (ha : PE X e (tPD (gx X) W p)) (hr : PA X es (tPAs (gx X) W l)) (hs : starEach (e :: es) X.env = (false, eval e X.env) :: starEach es X.env := by rfl) : PA X (e :: es) (tPAs (gx X) W (pCons p l)) :=
  pp_As (pad_cons (pd_P ha) (pad_P hr) hs) fun env hs => by unfold eCons pCons; simp only [pOf_bnd hs, pOf_ret]
theorem dn_all {op : List D → Option D} : Dn (eAll op (eP l)) (pAll op l) := fun env hs => by unfold eAll pAll; simp only [pOf_bnd hs, pOf_lift]
theorem pp_tup {x1} (h : PA X es (tPAs (gx X) W l)) : PE X (.Tuple es x1 pos) (tPD (gx X) W (pAll tupD l)) := pp_D (pd_tup (pad_P h)) dn_all
theorem pp_lst (h : PA X es (tPAs (gx X) W l)) : PE X (.List es pos) (tPD (gx X) W (pAll lstD l)) := pp_D (pd_lst (pad_P h)) dn_all
theorem pp_ix (hu : X.A.units + 1 < cLine) (ha : PE X a (tPD (gx X) W p)) (hb : PE X b (tPD (gx X) W q)) (hs : PlainIx b) : PE X (.Subscript a b pos) (tPD (gx X) W (pBin idxD p q)) :=
  pp_D (pd_ix hu (pd_P ha) (pd_P hb) hs) fun env hs => by unfold eBin pBin; simp only [pOf_bnd hs, pOf_lift]
theorem pop_none : PO X none (tPPt (gx X) W pPart0) := pp_O pod_none fun env hs => rfl
theorem pop_some (h : PE X e (tPD (gx X) W p)) : PO X (some e) (tPPt (gx X) W (pPart p)) := pp_O (pod_some (pd_P h)) fun env hs => by unfold ePart pPart; simp only [pOf_bnd hs, pOf_lift]
theorem pp_sl {lo hi : Option Expr} {u v : En → Pr (Option Int)} {p2 : Pos} (he : PE X e (tPD (gx X) W p)) (hl : PO X lo (tPPt (gx X) W u)) (hh : PO X hi (tPPt (gx X) W v)) : PE X (.Subscript e (.Slice lo hi none p2) pos) (tPD (gx X) W (pSl p u v)) :=
  pp_D (pd_sl (pd_P he) (pod_P hl) (pod_P hh)) fun env hs => by unfold eSl pSl; simp only [pOf_bnd hs, pOf_lift]
theorem pp_rev {k : Nat} {p1 p2 p3 : Pos} (he : PE X e (tPD (gx X) W p)) : PE X (.Subscript e (.Slice none none (some (.UnaryOp .USub (.Constant (.int 1) k p1) p2)) p3) pos) (tPD (gx X) W (pUn revD p)) := pp_D (pd_rev (pd_P he)) fun env hs => by unfold eUn pUn; simp only [pOf_bnd hs, pOf_lift]
theorem dn_isi {k : D → D} : Dn (bnd (eP p) fun d => VH.ret (k d)) (pMap k p) := fun env hs => by unfold pMap; simp only [pOf_bnd hs, pOf_ret]
theorem dn_m1 {op : Str → D → Option D} : Dn (eM1 op (eP p) (eP q)) (pM1 op p q) := fun env hs => by
  unfold eM1 pM1
  rw [pOf_bnd hs]
  congr 1; funext x
  cases e : strD x with
  | none => rfl
  | some z => exact (pOf_bnd hs).trans (by simp only [pOf_lift]; rfl)
theorem dn_seq : Dn (eSeq (eP p)) (pSeq itemsD p) := fun env hs => by unfold eSeq pSeq; simp only [pOf_bnd hs, pOf_lift]
theorem dn_enum : Dn (eEnum (eP p)) (pSeq enumD p) := fun env hs => by unfold eEnum pSeq; simp only [pOf_bnd hs, pOf_lift]
theorem dn_rng : Dn (eRng (eP p)) (pSeq rng1D p) := fun env hs => by unfold eRng pSeq; simp only [pOf_bnd hs, pOf_lift]
theorem dn_rng2 : Dn (eRng2 (eP p) (eP q)) (pSeq2 rngD p q) := fun env hs => by unfold eRng2 pSeq2; simp only [pOf_bnd hs, pOf_lift]
theorem dn_zip : Dn (eZip (eP p) (eP q)) (pSeq2 zipD p q) := fun env hs => by unfold eZip pSeq2; simp only [pOf_bnd hs, pOf_lift]
end
/-! ### calls of defs of the text -/
def oR (o : O) : Pr D := if o.fzb = true then .ok (fz o) else .bad
def pCall (run : List O → Rs O) (fa : En → Pr (List D)) : En → Pr D := fun env => (fa env).bind fun ds => match run (ds.map .sh) with
  | .ok o _ => oR o
  | .exc x _ => .exc x
  | .bad => .bad
def Dna (g : En → Rs (List Ar)) (f : En → Pr (List D)) : Prop := ∀ env, shE env = env → g env = match f env with
  | .ok ds => .ok (ds.map fun d => .inl (.sh d)) env
  | .exc x => .exc x env
  | .bad => .bad
theorem dna_nil : Dna aNil pNil := fun env hs => rfl
theorem dna_val {p : En → Pr D} {g : En → Rs (List Ar)} {f : En → Pr (List D)} (h : Dna g f) : Dna (aVal (eP p) g) (pCons p f) := fun env hs => by
  unfold aVal bnd pCons
  rw [eP_def hs]
  cases p env with
  | ok d =>
    simp only [Pr.bind, h env hs]
    cases f env <;> rfl
  | exc x => rfl
  | bad => rfl
theorem takeA_vals {env : En} : ∀ ds : List D, takeA (ds.map fun d => (.inl (.sh d) : Ar)) env = some (ds.map .sh, env)
  | [] => rfl
  | d :: ds => by
    rw [List.map_cons]
    unfold takeA
    rw [takeA_vals ds]
    rfl
theorem putA_vals : ∀ (ds : List D) (outs env : En), putA (ds.map fun d => (.inl (.sh d) : Ar)) outs env = env
  | [], _, _ => rfl
  | d :: ds, [], env => rfl
  | d :: ds, _ :: os, env => by
    rw [List.map_cons]
    unfold putA
    exact putA_vals ds os env
theorem dn_call {run : List O → Rs O} {g : En → Rs (List Ar)} {f : En → Pr (List D)} (h : Dna g f) : Dn (eFz (eCallU run g)) (pCall run f) := fun env hs => by
  unfold eFz eCallU pOf pCall bnd
  dsimp only
  rw [h env hs]
  cases f env with
  | ok ds =>
    simp only [Pr.bind, takeA_vals]
    cases run (ds.map .sh) with
    | ok o outs =>
      simp only [putA_vals, oR]
      by_cases c : o.fzb = true
      · simp only [if_pos c]
      · simp only [if_neg c]
    | exc x outs => rfl
    | bad => rfl
  | exc x => rfl
  | bad => rfl
/-! ### comprehensions -/
def mapP {α β : Type} (f : α → Pr (Option β)) : List α → Pr (List β)
  | [] => .ok []
  | d :: ds => match f d with
    | .ok (some y) => match mapP f ds with
      | .ok ys => .ok (y :: ys)
      | _ => .bad
    | .ok none => mapP f ds
    | _ => .bad
def okB {α : Type} (r : Pr α) : Pr α := match r with
  | .ok a => .ok a
  | _ => .bad
def pItem (tg : Tg) (fc : En → Pr Bool) (fe : En → Pr D) (env : En) (d : D) : Pr (Option D) := match tg d env with
  | none => .bad
  | some env1 => (fc env1).bind fun b => if b = true then (fe env1).bind fun y => .ok (some y) else .ok none
def pCompL (fi : En → Pr (List D)) (tg : Tg) (ix : List Nat) (fc : En → Pr Bool) (fe : En → Pr D) : En → Pr (List D) := fun env => (fi env).bind fun items => okB (mapP (pItem tg fc fe (dropE ix env)) items)
def pComp (fi : En → Pr (List D)) (tg : Tg) (ix : List Nat) (fc : En → Pr Bool) (fe : En → Pr D) : En → Pr D := fun env => (pCompL fi tg ix fc fe env).bind fun ys => .ok (.list ys)
structure TgS (ix : List Nat) (tg : Tg) : Prop where
  drop : ∀ d env env1, tg d env = some env1 → dropE ix env1 = dropE ix env
  sh : ∀ d env, tg d (shE env) = (tg d env).map shE
theorem dropE_sh : ∀ (ix : List Nat) (env : En), dropE ix (shE env) = shE (dropE ix env)
  | [], env => rfl
  | i :: ix, env => by
    unfold dropE
    rw [shE_set, dropE_sh ix env]
    rfl
theorem dropE_set {ix : List Nat} {i : Nat} {o : Option O} {env : En} (h : i ∈ ix) : dropE ix (env.set i o) = dropE ix env := by
  induction ix generalizing env with
  | nil => cases h
  | cons j ix ih =>
    unfold dropE
    by_cases e : i ∈ ix
    · rw [ih e]
    · have : i = j := (List.mem_cons.mp h).resolve_right e
      subst this
      have c : ∀ (ix : List Nat) (env : En), i ∉ ix → dropE ix (env.set i o) = (dropE ix env).set i o := by
        intro ix
        induction ix with
        | nil => intro env _; rfl
        | cons k ix ih2 =>
          intro env hn
          unfold dropE
          rw [ih2 env fun q => hn (List.mem_cons_of_mem _ q), List.set_comm _ _ (fun q : i = k => hn (q ▸ List.mem_cons_self))]
      rw [c ix env e, List.set_set]
theorem tgs_N {ix : List Nat} {i : Nat} (h : i ∈ ix) : TgS ix (tgN i) where
  drop := fun d env env1 e => by
    unfold tgN at e
    split at e
    · cases e; exact dropE_set h
    · cases e
  sh := fun d env => by
    unfold tgN
    rw [shE_length]
    split
    · rw [Option.map_some, shE_set]; rfl
    · rfl
theorem tgs_seq {ix : List Nat} : ∀ {ts : List Tg}, (∀ t ∈ ts, TgS ix t) → ∀ ds, (∀ env env1, tgSeq ts ds env = some env1 → dropE ix env1 = dropE ix env) ∧ ∀ env, tgSeq ts ds (shE env) = (tgSeq ts ds env).map shE
  | [], _, [] => ⟨fun env env1 (e : some env = some env1) => by cases e; rfl, fun env => rfl⟩
  | [], _, _ :: _ => ⟨fun env env1 (e : none = some env1) => (nomatch e), fun env => rfl⟩
  | _ :: _, _, [] => ⟨fun env env1 (e : none = some env1) => (nomatch e), fun env => rfl⟩
  | t :: ts, h, d :: ds => by
    have h1 := h t List.mem_cons_self
    obtain ⟨a, b⟩ := tgs_seq (ts := ts) (fun t q => h t (List.mem_cons_of_mem _ q)) ds
    refine ⟨fun env env1 e => ?_, fun env => ?_⟩
    · obtain ⟨e0, q1, q2⟩ := Option.bind_eq_some_iff.mp (show (t d env).bind (tgSeq ts ds) = some env1 from e)
      rw [a _ _ q2, h1.drop _ _ _ q1]
    · show (t d (shE env)).bind (tgSeq ts ds) = Option.map shE ((t d env).bind (tgSeq ts ds))
      rw [h1.sh]
      cases t d env with
      | none => rfl
      | some e0 => exact b e0
theorem tgs_T {ix : List Nat} {n : Nat} {ts : List Tg} (h : ∀ t ∈ ts, TgS ix t) : TgS ix (tgT n ts) where
  drop := fun d env env1 e => by
    unfold tgT at e
    split at e
    · split at e
      · exact (tgs_seq h _).1 _ _ e
      · cases e
    · cases e
  sh := fun d env => by
    unfold tgT
    split
    · split
      · exact (tgs_seq h _).2 env
      · rfl
    · rfl
theorem compM_P {tg : Tg} {ix : List Nat} {fc : En → Pr Bool} {fe : En → Pr D} (S : TgS ix tg) {env : En} (he : dropE ix env = env) : ∀ items : List D, compM tg ix (eP fc) (eP fe) items env = match mapP (pItem tg fc fe (shE env)) items with
    | .ok ys => .ok ys env
    | _ => .bad
  | [] => rfl
  | d :: ds => by
    have hp : pItem tg fc fe (shE env) d = (match tg d env with | none => .bad | some env1 => (fc (shE env1)).bind fun b => if b = true then (fe (shE env1)).bind fun y => .ok (some y) else .ok none) := by
      unfold pItem
      rw [S.sh]
      cases tg d env <;> rfl
    have ih := compM_P (fc := fc) (fe := fe) S he ds
    unfold compM
    simp only [mapP]
    rw [hp]
    cases e : tg d env with
    | none => rfl
    | some env1 =>
      have hd : dropE ix env1 = env := (S.drop _ _ _ e).trans he
      dsimp only
      unfold eP at ih ⊢
      cases e1 : fc (shE env1) with
      | exc x => rfl
      | bad => rfl
      | ok b =>
        dsimp only [Pr.bind]
        cases b with
        | false =>
          simp only [Bool.false_eq_true, if_false, hd]
          exact ih
        | true =>
          simp only [if_true]
          cases e2 : fe (shE env1) with
          | exc x => rfl
          | bad => rfl
          | ok y =>
            dsimp only
            rw [hd, ih]
            cases mapP (pItem tg fc fe (shE env)) ds <;> rfl
theorem dropE_dropE {ix : List Nat} {env : En} : dropE ix (dropE ix env) = dropE ix env := by
  have c : ∀ (jx : List Nat), (∀ j ∈ jx, j ∈ ix) → dropE ix (dropE jx env) = dropE ix env := by
    intro jx
    induction jx with
    | nil => intro _; rfl
    | cons j jx ih =>
      intro h
      show dropE ix ((dropE jx env).set j none) = _
      rw [dropE_set (h j List.mem_cons_self), ih fun k q => h k (List.mem_cons_of_mem _ q)]
  exact c ix fun j h => h
theorem oComp_P {fi : En → Pr (List D)} {tg : Tg} {ix : List Nat} {fc : En → Pr Bool} {fe : En → Pr D} (S : TgS ix tg) (env : En) : oComp (eP fi) tg ix (eP fc) (eP fe) env = match fi (shE env) with
    | .ok items => (match mapP (pItem tg fc fe (dropE ix (shE env))) items with
      | .ok ys => .ok (.lst ys) (dropE ix env)
      | _ => .bad)
    | .exc x => .exc x env
    | .bad => .bad := by
  unfold oComp bnd eP
  cases fi (shE env) with
  | exc x => rfl
  | bad => rfl
  | ok items =>
    simp only
    have h := compM_P (fc := fc) (fe := fe) S (env := dropE ix env) dropE_dropE items
    unfold eP at h
    rw [h, dropE_sh]
    cases mapP _ items <;> rfl
theorem dn_comp {fi : En → Pr (List D)} {tg : Tg} {ix : List Nat} {fc : En → Pr Bool} {fe : En → Pr D} (S : TgS ix tg) : Dn (eFz (oComp (eP fi) tg ix (eP fc) (eP fe))) (pComp fi tg ix fc fe) := fun env hs => by
  unfold eFz bnd pOf pComp pCompL
  dsimp only
  rw [oComp_P S, hs]
  cases fi env with
  | exc x => rfl
  | bad => rfl
  | ok items =>
    simp only [Pr.bind]
    cases mapP _ items <;> rfl
end VH
set_option Elab.async false
set_option linter.all false
set_option maxRecDepth 100000
set_option maxHeartbeats 4000000
namespace VH
open PySem PySem.Spec PyProof.Rows L2

/-! ### a dict that is locked while it is walked, let go behind -/
def UnlQ (X : Cx) (H : Hp) (P : Hp → Prop) : Prop := ∃ d od u, H d = some (.frz od u) ∧ (∀ o' u', X.H_0 d ≠ some (.frz o' u')) ∧ P (upd H d u)
def Unl (X : Cx) (D : Ends) : Ends := ⟨fun σ H => D.nx σ H ∨ UnlQ X H (D.nx σ), fun v H => D.rt v H ∨ UnlQ X H (D.rt v), fun σ H => D.bk σ H ∨ UnlQ X H (D.bk σ), fun σ H => D.ct σ H ∨ UnlQ X H (D.ct σ)⟩
section
variable {X : Cx}
theorem ps_unl {st : Stmt} {t : TS} (h : PS X st t) : PS X st (fun D σ H => t (Unl X D) σ H) := by
  refine ⟨fun pins s σ H D I hw => ?_⟩
  refine thn (h.run pins s σ _ _ I hw) fun f s1 q => ?_
  cases f with
  | next =>
    obtain ⟨σ', H', I2, q⟩ := q
    rcases q with q | ⟨d, od, u, e, hn, q⟩
    · exact ⟨σ', H', I2, q⟩
    · exact ⟨σ', _, I2.unlock e hn, q⟩
  | brk =>
    obtain ⟨σ', H', I2, q⟩ := q
    rcases q with q | ⟨d, od, u, e, hn, q⟩
    · exact ⟨σ', H', I2, q⟩
    · exact ⟨σ', _, I2.unlock e hn, q⟩
  | cont =>
    obtain ⟨σ', H', I2, q⟩ := q
    rcases q with q | ⟨d, od, u, e, hn, q⟩
    · exact ⟨σ', H', I2, q⟩
    · exact ⟨σ', _, I2.unlock e hn, q⟩
  | ret v =>
    obtain ⟨x, σ', H', I2, r, q⟩ := q
    rcases q with q | ⟨d, od, u, e, hn, q⟩
    · exact ⟨x, σ', H', I2, r, q⟩
    · exact ⟨x, σ', _, I2.unlock e hn, r, q⟩
theorem pe_unl {e : Expr} {t : TE} (h : PE X e t) : PE X e (fun σ H Q => t σ H fun v H' => Q v H' ∨ UnlQ X H' (Q v)) := by
  refine ⟨fun pins s σ H Q I hw => ?_⟩
  refine thn (h.run pins s σ _ _ I hw) fun v s1 ⟨x, H1, I2, r, q⟩ => ?_
  rcases q with q | ⟨d, od, u, e, hn, q⟩
  · exact ⟨x, H1, I2, r, q⟩
  · exact ⟨x, _, I2.unlock e hn, r, q⟩
/-- the keys of a dict: locked from here on -/
def iKeysU (X : Cx) (td : TE) : TI := fun σ H R => td σ H fun x H1 => ∃ d kvs, x = .ref d ∧ ((∃ o, H1 d = some (.frz o (.dK kvs)) ∧ (kvs.length ≤ sizeLine → R (Itk d o kvs) H1)) ∨
  (H1 d = some (.dK kvs) ∧ ∀ od, (∀ o' u', X.H_0 d ≠ some (.frz o' u')) → kvs.length ≤ sizeLine → R (Itk d od kvs) (upd H1 d (.frz od (.dK kvs)))))
theorem pi_keysU {tg e : Expr} {td : TE} (he : PE X e td) : PI X tg e (iKeysU X td) := by
  refine ⟨fun pins s σ H R I h => ?_⟩
  refine thn (he.run pins s σ H _ I h) fun u s1 ⟨x, H1, I1, rx, d, kvs, ex, q⟩ => ?_
  subst ex
  obtain rfl : u = Value.ref d := rx
  have go : ∀ {H2 : Hp} {o : Obj}, Inv X pins σ H2 s1 → H2 d = some (.frz o (.dK kvs)) → R (Itk d o kvs) H2 → wpAny (model X.prog X.w) X.A (pyIter (.ref d)) (PIE X pins σ tg R) X.xe s1 := fun {H2 o} I2 hd q => by
    obtain ⟨hs, hgd, hx, es, ep, vs, hdt, hsz, kv, hm⟩ := I2.frzK hd
    refine iter_keys hs hgd hx hdt (pi_one (tk := s1.toks) I2 _ (turn_keys _ hdt) ⟨_, Heap.get?_push_size _ rfl, rfl, ?_⟩ q)
    rw [hsz] <;> rfl
  rcases q with ⟨o, hd, q⟩ | ⟨hd, q⟩
  · have z : kvs.length ≤ sizeLine := (show ObjOk X.prog X.w H1 s1.heap d (.dK kvs) from (I1.hok d _ hd).2).1
    exact go I1 hd (q z)
  · have z : kvs.length ≤ sizeLine := (show ObjOk X.prog X.w H1 s1.heap d (.dK kvs) from I1.hok d _ hd).1
    obtain ⟨od, I2⟩ := I1.lock hd trivial
    exact go I2 upd_same (q od (I1.nofrz hd trivial) z)
end
/-! ### what is walked, as data -/
def keysD2 (kvs : List (D × D)) : List D := kvs.map (·.1)
theorem RepK.getK {K : PySem.W.Frag} {H : Hp} {F : FA} : ∀ {vs : List (Key × V)} {ds : List (D × D)} {i : Nat} {d : D}, RepK K H F vs ds → (keysD2 ds)[i]? = some d → ∃ k v, vs[i]? = some (k, v) ∧ d = kD k
  | _, _, i, d, .nil, e => by simp [keysD2] at e
  | _, _, 0, d, .cons (k := k) (v := v) h t, e => by
    simp [keysD2] at e
    exact ⟨k, v, rfl, e.symm⟩
  | _, _, i + 1, d, .cons h t, e => by
    obtain ⟨k, v, e1, e2⟩ := RepK.getK (i := i) t (by simpa [keysD2] using e)
    exact ⟨k, v, by simpa using e1, e2⟩
theorem rep_kD {K : PySem.W.Frag} {H : Hp} {F : FA} (k : Key) : Rep K H F (kV k) (kD k) := by cases k <;> constructor
theorem wk_keys {K : PySem.W.Frag} {H : Hp} {F : FA} {a : Addr} {o : Obj} {kvs : List (Key × V)} {ds : List (D × D)} (hF : F a) (ha : H a = some (.frz o (.dK kvs))) (q : RepK K H F kvs ds) (hz : kvs.length ≤ sizeLine) : Wk K (Itk a o kvs) H F (keysD2 ds) where
  len := by unfold keysD2; rw [List.length_map, ← q.length]; exact hz
  go := fun H2 F2 kp i d e => by
    have f2 := kp.un _ _ hF ha
    obtain ⟨k, v, e1, rfl⟩ := q.getK e
    refine ⟨⟨f2, (List.getElem?_eq_some_iff.mp e1).1⟩, fun x H' ⟨eH, k', v', e2, ex⟩ => ?_⟩
    rw [e1] at e2
    cases e2
    subst eH ex
    exact ⟨F2, .refl, rep_kD k⟩
  stop := fun H2 F2 kp i h => ⟨kp.un _ _ hF ha, by rw [q.length]; simpa [keysD2] using h⟩
/-! ### locked and let go -/
theorem lock_stb {H : Hp} {F : FA} {d : Addr} {od : Obj} {kvs : List (Key × V)} (hd : H d = some (.dK kvs)) : Stb H F (upd H d (.frz od (.dK kvs))) F :=
  ⟨fun a u f e n m => by
    have na : a ≠ d := fun z => by rw [z, hd] at e; cases e; exact m _ rfl
    rw [upd_ne na]; exact e, fun a u f n e => by
    by_cases na : a = d
    · subst na
      rcases e with e | ⟨o, e⟩
      · rw [hd] at e; cases e; exact .inr ⟨od, upd_same⟩
      · rw [hd] at e; cases e
    · rcases e with e | ⟨o, e⟩
      · exact .inl (by rw [upd_ne na]; exact e)
      · exact .inr ⟨o, by rw [upd_ne na]; exact e⟩, fun _ h => h⟩
theorem unlock_stb {H : Hp} {F : FA} {d : Addr} {od : Obj} {kvs : List (Key × V)} (hd : H d = some (.frz od (.dK kvs))) : Stb H F (upd H d (.dK kvs)) F :=
  ⟨fun a u f e n m => by
    have na : a ≠ d := fun z => by rw [z, hd] at e; cases e; exact n _ _ rfl
    rw [upd_ne na]; exact e, fun a u f n e => by
    by_cases na : a = d
    · subst na
      rcases e with e | ⟨o, e⟩
      · rw [hd] at e; cases e; exact (n _ _ rfl).elim
      · rw [hd] at e; cases e; exact .inl upd_same
    · rcases e with e | ⟨o, e⟩
      · exact .inl (by rw [upd_ne na]; exact e)
      · exact .inr ⟨o, by rw [upd_ne na]; exact e⟩, fun _ h => h⟩
theorem Sta.over {K : PySem.W.Frag} {H : Hp} {F : FA} {σ : Sg} {env : En} {fp : List Addr} {d : Addr} {ob : HO} (s : Sta K H F σ env fp) (sb : Stb H F (upd H d ob) F) (hF : F d) : Sta K (upd H d ob) F σ env fp :=
  ⟨s.re.mono sb fun a q => ⟨upd_ne fun z => (s.re.trk a q).2 (by rw [z]; exact hF), id⟩, fun a q => by
    by_cases e : a = d
    · subst e; exact ⟨_, upd_same⟩
    · obtain ⟨u, z⟩ := s.fo a q
      exact ⟨u, by rw [upd_ne e]; exact z⟩⟩
theorem Tr.unl {fp fp' : List Addr} {H H' : Hp} {F F' : FA} {d : Addr} {od : Obj} {kvs : List (Key × V)} (t : Tr fp (upd H d (.frz od (.dK kvs))) F H' F' fp') (hd : H d = some (.dK kvs)) (hF : F d) : Tr fp H F (upd H' d (.dK kvs)) F' fp' where
  keep := fun a u e n => by
    by_cases na : a = d
    · subst na
      rw [hd] at e; cases e
      exact ⟨upd_same, fun _ => hF⟩
    · rw [upd_ne na]
      exact t.keep a u (by rw [upd_ne na]; exact e) n
  froz := t.froz
  new := fun a q => by
    rcases t.new a q with z | z
    · exact .inl z
    · refine .inr ?_
      by_cases na : a = d
      · subst na; rw [upd_same] at z; cases z
      · rw [upd_ne na] at z; exact z
/-! ### for k in d -/
def noX {α : Type} : Rs α → Rs α
  | .exc _ _ => .bad
  | r => r
def eKeys (f : En → Rs D) : En → Rs (List D) := fun env₀ => (bnd f fun d env => match d with
  | .dict kvs => .ok (keysD2 kvs) env
  | _ => .bad) env₀
def sForK (fi : En → Rs (List D)) (tg : Tg) (body : En → Rs Fl) : En → Rs Fl := fun env₀ => (bnd fi fun items env => noX (loopS tg body items env)) env₀
section
variable {X : Cx} {W : WX} {B : Bx} {pos : Pos}
/-- the heart of a for over what is walked -/
theorem for_core {ix : List Nat} {J : It} {items : List D} {tg : Tg} {fb : En → Rs Fl} {N : Ends} {σ : Sg} {H1 : Hp} {F1 : FA} {fp1 : List Addr} {env1 : En} (p : Pin B.bs B.vs σ) (s1 : Sta X.K H1 F1 σ env1 fp1) (wk : Wk X.K J H1 F1 items)
    (h1 : OutS (gx X) W B fp1 H1 F1 (loopS tg fb items env1) N) : ∃ Wv : Nat → Nat → Sg → Hp → Prop, (∃ m, Wv 0 m σ H1) ∧ ∀ i m σ H, Wv i m σ H →
      (J.stop i H ∧ N.nx σ H) ∨ (J.go i H ∧ ∃ M : Sg → Hp → Prop, (∀ σ' H', M σ' H' → ∃ m', m' < m ∧ Wv (i + 1) m' σ' H') ∧ ∀ x H', J.yld i H x H' → tG (gx X) B ix tg x σ H' fun σ2 H2 => tS (gx X) W B fb { N with nx := M, ct := M, bk := N.nx } σ2 H2) := by
  refine ⟨fun i m σ2 H2 => m = items.length - i ∧ i ≤ items.length ∧ Pin B.bs B.vs σ2 ∧ ∃ env2 F2 fp2, Sta X.K H2 F2 σ2 env2 fp2 ∧ Kp H1 F1 H2 F2 ∧ OutS (gx X) W B fp2 H2 F2 (loopS tg fb (items.drop i) env2) N,
    ⟨items.length, by simp, Nat.zero_le _, p, env1, F1, fp1, s1, .refl, by simpa using h1⟩, ?_⟩
  rintro i m σ2 H2 ⟨rfl, hi, p2, env2, F2, fp2, s2, sb, h2⟩
  by_cases hlt : i < items.length
  · have ei : items[i]? = some items[i] := List.getElem?_eq_getElem hlt
    obtain ⟨go, yl⟩ := wk.go H2 F2 sb i _ ei
    refine .inr ⟨go, fun σ3 H3 => Pin B.bs B.vs σ3 ∧ ∃ env3 F3 fp3, Sta X.K H3 F3 σ3 env3 fp3 ∧ Kp H1 F1 H3 F3 ∧ OutS (gx X) W B fp3 H3 F3 (loopS tg fb (items.drop (i + 1)) env3) N,
      fun σ3 H3 q => ⟨items.length - (i + 1), by omega, rfl, hlt, q⟩, fun x H' y => ?_⟩
    obtain ⟨F', n, r⟩ := yl x H' y
    rw [drop_at hlt] at h2
    unfold loopS at h2
    split at h2
    · exact h2.elim
    · rename_i env3 e3
      refine ⟨p2, env2, F', fp2, _, env3, n.sta s2, r, e3, fun σ4 H4 F4 fp4 p4 _ t4 s4 => ⟨p4, env3, F4, fp4, s4, ?_⟩⟩
      have sb4 : Kp H1 F1 H4 F4 := (sb.trans n.kp).trans (t4.kp (n.sta s2).re.nf)
      have t24 : Tr fp2 H2 F2 H4 F4 fp4 := n.tr.trans t4
      have next : ∀ env5, OutS (gx X) W B fp2 H2 F2 (loopS tg fb (items.drop (i + 1)) env5) N → ∀ σ5 H5 F5 fp5, Pin B.bs B.vs σ5 → Tr fp4 H4 F4 H5 F5 fp5 → Sta X.K H5 F5 σ5 env5 fp5 →
          Pin B.bs B.vs σ5 ∧ ∃ env3 F3 fp3, Sta X.K H5 F3 σ5 env3 fp3 ∧ Kp H1 F1 H5 F3 ∧ OutS (gx X) W B fp3 H5 F3 (loopS tg fb (items.drop (i + 1)) env3) N :=
        fun env5 h5 σ5 H5 F5 fp5 p5 t5 s5 => ⟨p5, env5, F5, fp5, s5, sb4.trans (t5.kp s4.re.nf), OutS.later (t24.trans t5) h5⟩
      cases eb : fb env3 with
      | ok fl env5 =>
        rw [eb] at h2
        cases fl with
        | nx => exact next env5 h2
        | cnt => exact next env5 h2
        | brk => exact fun σ5 H5 F5 fp5 p5 t5 s5 => h2 σ5 H5 F5 fp5 p5 (t24.trans t5) s5
        | ret o => exact fun σ5 H5 F5 fp5 v fr p5 t5 s5 => h2 σ5 H5 F5 fp5 v fr p5 (t24.trans t5) s5
      | exc x env5 => rw [eb] at h2; exact fun σ5 H5 F5 fp5 c o p5 t5 s5 => h2 σ5 H5 F5 fp5 c o p5 (t24.trans t5) s5
      | bad => rw [eb] at h2; exact h2
  · have e : i = items.length := by omega
    subst e
    refine .inl ⟨wk.stop H2 F2 sb _ (Nat.le_refl _), ?_⟩
    rw [List.drop_length] at h2
    exact h2 σ2 H2 F2 fp2 p2 .refl s2
/-- what a statement on a locked dict gives, behind its being let go -/
theorem OutS.unl {r : Rs Fl} {N : Ends} {σ : Sg} {fp : List Addr} {H : Hp} {F : FA} {d : Addr} {od : Obj} {kvs : List (Key × V)} (hd : H d = some (.dK kvs)) (hF : F d) (hfp : d ∉ fp) (h0 : ∀ o' u', X.H_0 d ≠ some (.frz o' u'))
    (h : OutS (gx X) W B fp H F (noX r) N) : OutS (gx X) W B fp (upd H d (.frz od (.dK kvs))) F r (Unl X N) := by
  have at' : ∀ {H' F' g}, Tr fp (upd H d (.frz od (.dK kvs))) F H' F' g → H' d = some (.frz od (.dK kvs)) := fun {H' F' g} t => (t.keep d _ upd_same hfp).1
  cases r with
  | ok fl env =>
    cases fl with
    | nx => exact fun σ' H' F' fp' p t s => .inr ⟨d, od, _, at' t, h0, h σ' _ F' fp' p (t.unl hd hF) (s.over (unlock_stb (at' t)) (t.froz d hF))⟩
    | brk => exact fun σ' H' F' fp' p t s => .inr ⟨d, od, _, at' t, h0, h σ' _ F' fp' p (t.unl hd hF) (s.over (unlock_stb (at' t)) (t.froz d hF))⟩
    | cnt => exact fun σ' H' F' fp' p t s => .inr ⟨d, od, _, at' t, h0, h σ' _ F' fp' p (t.unl hd hF) (s.over (unlock_stb (at' t)) (t.froz d hF))⟩
    | ret o =>
      refine fun σ' H' F' fp' v fr p t s ro dj => .inr ⟨d, od, _, at' t, h0, h σ' _ F' fp' v fr p (t.unl hd hF) (s.over (unlock_stb (at' t)) (t.froz d hF)) (ro.mono (unlock_stb (at' t)) fun a q => ⟨upd_ne fun z => (ro.trk a q).2 (by rw [z]; exact t.froz d hF), id⟩) dj⟩
  | exc x env => exact h.elim
  | bad => exact h.elim
theorem OutS.unl0 {r : Rs Fl} {N : Ends} {σ : Sg} {fp : List Addr} {H : Hp} {F : FA} (h : OutS (gx X) W B fp H F (noX r) N) : OutS (gx X) W B fp H F r (Unl X N) := by
  cases r with
  | ok fl env =>
    cases fl with
    | nx => exact fun σ' H' F' fp' p t s => .inl (h σ' H' F' fp' p t s)
    | brk => exact fun σ' H' F' fp' p t s => .inl (h σ' H' F' fp' p t s)
    | cnt => exact fun σ' H' F' fp' p t s => .inl (h σ' H' F' fp' p t s)
    | ret o => exact fun σ' H' F' fp' v fr p t s ro dj => .inl (h σ' H' F' fp' v fr p t s ro dj)
  | exc x env => exact h.elim
  | bad => exact h.elim
theorem psd_forK {ix : List Nat} {t iter : Expr} {body : List Stmt} {f : En → Rs D} {tg : Tg} {fb : En → Rs Fl} (hp : PassesOwn (model X.prog X.w) X.A X.env X.xe) (hc : X.calm = true) (hi : PE X iter (tD (gx X) W f)) (hg : PG X t (tG (gx X) B ix tg)) (hb : PSs X body (tS (gx X) W B fb))
    (hs : ∀ x, foldedSetIterable iter X.env x = pure x := by intro _; rfl) : PS X (.For t iter body [] pos) (tS (gx X) W B (sForK (eKeys f) tg fb)) := PS.imp (ps_unl (ps_for hp hc (pi_keysU hi) hg hb hs)) fun N σ H ⟨p, env, F, fp, s, h⟩ => by
  refine ⟨env, F, fp, s, Out.mono (Out.bind (OutS.bind p h)) fun dd env1 H1 F1 fp1 t1 s1 h1 v r => ?_⟩
  have h2 : ∃ ds, dd = .dict ds ∧ OutS (gx X) W B fp1 H1 F1 (noX (loopS tg fb (keysD2 ds) env1)) N := by
    cases dd with
    | dict ds => exact ⟨ds, rfl, h1 H1 F1 fp1 .refl s1⟩
    | _ => exact h1.elim
  obtain ⟨ds, rfl, h3⟩ := h2
  cases r with
  | @dic a kvs _ fk q =>
    obtain ⟨hF, rd⟩ := fk
    have hfp : a ∉ fp1 := fun z => s1.re.nf a z hF
    rcases rd with hd | ⟨o, hd⟩
    · refine ⟨a, kvs, rfl, .inr ⟨hd, fun od h0 hz => ?_⟩⟩
      have sL := s1.over (lock_stb (od := od) hd) hF
      exact for_core p sL (wk_keys hF upd_same (q.mono (lock_stb hd)) hz) (OutS.unl (σ := σ) hd hF hfp h0 h3)
    · exact ⟨a, kvs, rfl, .inl ⟨o, hd, fun hz => for_core p s1 (wk_keys hF hd q hz) (OutS.unl0 (σ := σ) h3)⟩⟩
end
/-! ### comprehensions over a dict -/
theorem comp_core {tg : Tg} {ix : List Nat} {fc : En → Rs Bool} {fe : En → Rs D} {G : Gx} {W : WX} {σ : Sg} {J : It} {items : List D} {H1 : Hp} {F1 : FA} {fp1 : List Addr} {env1 : En} {Q : VK} (s1 : Sta G.K H1 F1 σ env1 fp1) (wk : Wk G.K J H1 F1 items)
    (h1 : OutO G W σ fp1 H1 F1 (match compM tg ix fc fe items (dropE ix env1) with
    | .ok ys e => .ok (.lst ys) e
    | _ => .bad) fun _ _ H' _ _ v _ => Q v H') (Dd : Addr) (nD : H1 Dd = none) : ∃ Wv : Nat → Nat → Hp → Prop, (∃ m, Wv 0 m (upd H1 Dd (.lst []))) ∧ ∀ i m H, Wv i m H →
  (J.stop i H ∧ Q (.ref Dd) H) ∨ (J.go i H ∧ ∃ Nx : Hp → Prop, (∀ H', Nx H' → ∃ m', m' < m ∧ Wv (i + 1) m' H') ∧ ∀ x H', J.yld i H x H' → tG G B0 ix tg x (wipe σ ix) H' fun σ2 H2 => wipe σ2 ix = wipe σ ix ∧ tT G W0 fc σ2 H2 fun b H3 =>
    if b = true then tD G W0 fe σ2 H3 fun y H4 => ∃ acc, H4 Dd = some (.lst acc) ∧ acc.length < sizeLine ∧ Nx (upd H4 Dd (.lst (acc ++ [y]))) else Nx H3) := by
  cases ec : compM tg ix fc fe items (dropE ix env1) with
  | exc x e => rw [ec] at h1; exact h1.elim
  | bad => rw [ec] at h1; exact h1.elim
  | ok ys0 envf =>
    rw [ec] at h1
    obtain ⟨z1, z2, z3, z4, z5⟩ := own_new (ob := .lst []) s1 nD
    obtain ⟨fpd, red, hmd⟩ := z2.re.drop ix
    refine ⟨fun i m H2 => m = items.length - i ∧ i ≤ items.length ∧ ∃ env2 F2 fp2 accV accD ys, Sta G.K H2 F2 (wipe σ ix) env2 fp2 ∧ Kp H1 F1 H2 F2 ∧ Tr fp1 H1 F1 H2 F2 fp2 ∧ H2 Dd = some (.lst accV) ∧ ¬ F2 Dd ∧ Dd ∉ fp2 ∧ RepA G.K H2 F2 accV accD ∧ accD.length ≤ i ∧
      compM tg ix fc fe (items.drop i) env2 = .ok ys envf ∧ accD ++ ys = ys0 ∧ ∀ i ∈ ix, ∀ o, env2[i]? ≠ some (some o), ⟨items.length, by simp, Nat.zero_le _, dropE ix env1, F1, fpd, [], [], ys0, ⟨red, z2.fo⟩, own_new_kp nD, ?_, upd_same, z3, ?_, .nil, Nat.zero_le _, by simpa using ec, rfl, fun i h o => dropE_get h o⟩, ?_⟩
    · exact z1.less fun a q => List.mem_append_right _ (hmd a q)
    · exact fun q => z4 Dd (List.mem_singleton.mpr rfl) (hmd Dd q)
    rintro i m H2 ⟨rfl, hi, env2, F2, fp2, accV, accD, ys, s2, sb, t2, hD, nF, nfp, ra, hal, em, ea, hdrop⟩
    by_cases hlt : i < items.length
    · have ei : items[i]? = some items[i] := List.getElem?_eq_getElem hlt
      obtain ⟨go, yl⟩ := wk.go H2 F2 sb i _ ei
      refine .inr ⟨go, fun H3 => ∃ env2 F3 fp3 accV accD ys, Sta G.K H3 F3 (wipe σ ix) env2 fp3 ∧ Kp H1 F1 H3 F3 ∧ Tr fp1 H1 F1 H3 F3 fp3 ∧ H3 Dd = some (.lst accV) ∧ ¬ F3 Dd ∧ Dd ∉ fp3 ∧ RepA G.K H3 F3 accV accD ∧ accD.length ≤ i + 1 ∧
        compM tg ix fc fe (items.drop (i + 1)) env2 = .ok ys envf ∧ accD ++ ys = ys0 ∧ ∀ i ∈ ix, ∀ o, env2[i]? ≠ some (some o), fun H3 q => ⟨items.length - (i + 1), by omega, rfl, hlt, q⟩, fun x H' y => ?_⟩
      obtain ⟨F', n, r⟩ := yl x H' y
      rw [drop_at hlt] at em
      unfold compM at em
      split at em
      · cases em
      · rename_i env3 e3
        refine ⟨pin0, env2, F', fp2, _, env3, n.sta s2, r, e3, fun σ4 H4 F4 fp4 _ w4 t4 s4 => ⟨by rw [w4, wipe_wipe], ?_⟩⟩
        rw [wipe_wipe] at w4
        have t24 : Tr fp2 H2 F2 H4 F4 fp4 := n.tr.trans t4
        refine ⟨env3, F4, fp4, s4, ?_⟩
        -- what is kept of the new list through a step that starts from where it stands
        have keepD : ∀ {H5 F5 fp5}, Tr fp2 H2 F2 H5 F5 fp5 → H5 Dd = some (.lst accV) ∧ ¬ F5 Dd ∧ Dd ∉ fp5 ∧ RepA G.K H5 F5 accV accD ∧ Kp H1 F1 H5 F5 ∧ Tr fp1 H1 F1 H5 F5 fp5 := fun {H5 F5 fp5} t5 => by
          obtain ⟨a1, a2⟩ := t5.keep Dd _ hD nfp
          refine ⟨a1, fun q => nF (a2 q), fun q => ?_, ra.mono (t5.stb s2.re.nf), sb.trans (t5.kp s2.re.nf), t2.trans t5⟩
          rcases t5.new Dd q with z | z
          · exact nfp z
          · rw [hD] at z; cases z
        cases efc : fc env3 with
        | exc x e => rw [efc] at em; cases em
        | bad => rw [efc] at em; cases em
        | ok b env5 =>
          rw [efc] at em
          dsimp only at em
          intro H5 F5 fp5 t5 s5
          cases b with
          | false =>
            rw [if_neg Bool.false_ne_true] at em
            refine iteF ?_
            obtain ⟨k1, k2, k3, k4, k5, k6⟩ := keepD (t24.trans t5)
            obtain ⟨fp6, re6, hm6⟩ := s5.re.drop ix
            rw [w4] at re6
            exact ⟨dropE ix env5, F5, fp6, accV, accD, ys, ⟨re6, s5.fo⟩, k5, k6.less hm6, k1, k2, fun q => k3 (hm6 Dd q), k4, by omega, em, ea, fun i h o => dropE_get h o⟩
          | true =>
            rw [if_pos rfl] at em
            refine iteT ⟨env5, F5, fp5, s5, ?_⟩
            cases efe : fe env5 with
            | exc x e => rw [efe] at em; cases em
            | bad => rw [efe] at em; cases em
            | ok y env6 =>
              rw [efe] at em
              dsimp only at em
              intro H6 F6 fp6 t6 s6 v rv
              obtain ⟨k1, k2, k3, k4, k5, k6⟩ := keepD ((t24.trans t5).trans t6)
              cases ecm : compM tg ix fc fe (items.drop (i + 1)) (dropE ix env6) with
              | exc x e => rw [ecm] at em; cases em
              | bad => rw [ecm] at em; cases em
              | ok ys7 env7 =>
                rw [ecm] at em
                cases em
                refine ⟨accV, k1, ?_, ?_⟩
                · rw [ra.length]
                  have := wk.len
                  omega
                · obtain ⟨u1, u2, u3⟩ := own_write (ob := .lst (accV ++ [v])) s6 k3 k2 ⟨_, k1⟩
                  obtain ⟨fp8, re8, hm8⟩ := u2.re.drop ix
                  rw [w4] at re8
                  refine ⟨dropE ix env6, F6, fp8, accV ++ [v], accD ++ [y], ys7, ⟨re8, u2.fo⟩, k5.trans (own_write_kp k2), ?_, upd_same, k2, fun q => k3 (hm8 Dd q), (k4.mono u3).append (.cons (rv.mono u3) .nil), by rw [List.length_append]; simp; omega, ecm, by rw [List.append_assoc]; exact ea, fun i h o => dropE_get h o⟩
                  refine ⟨fun a u e n => ?_, k6.froz, fun a q => k6.new a (hm8 a q)⟩
                  obtain ⟨e1, f1⟩ := k6.keep a u e n
                  have na : a ≠ Dd := fun z => by rw [z, nD] at e; cases e
                  exact ⟨by rw [upd_ne na]; exact e1, f1⟩
    · have e : i = items.length := by omega
      subst e
      refine .inl ⟨wk.stop H2 F2 sb _ (Nat.le_refl _), ?_⟩
      rw [List.drop_length] at em
      unfold compM at em
      cases em
      rw [List.append_nil] at ea
      subst ea
      refine h1 H2 F2 fp2 (.ref Dd) [Dd] ⟨fun a u e n => t2.keep a u e n, t2.froz, fun a q => ?_⟩ ⟨s2.re.unwipe hdrop, s2.fo⟩ (.lst hD nF ra) fun a q => by rw [List.mem_singleton.mp q]; exact nfp
      rcases List.mem_append.mp q with q | q
      · rw [List.mem_singleton.mp q]; exact .inr nD
      · exact t2.new a q
/-- behind a value, the dict is let go -/
theorem OutO.unl {X : Cx} {W : WX} {r : Rs O} {Q : VK} {σ : Sg} {fp : List Addr} {H : Hp} {F : FA} {d : Addr} {od : Obj} {kvs : List (Key × V)} (hd : H d = some (.dK kvs)) (hF : F d) (hfp : d ∉ fp) (h0 : ∀ o' u', X.H_0 d ≠ some (.frz o' u'))
    (h : OutO (gx X) W σ fp H F (noX r) fun _ _ H' _ _ v _ => Q v H') : OutO (gx X) W σ fp (upd H d (.frz od (.dK kvs))) F r fun _ _ H' _ _ v _ => Q v H' ∨ UnlQ X H' (Q v) := by
  have at' : ∀ {H' F' g}, Tr fp (upd H d (.frz od (.dK kvs))) F H' F' g → H' d = some (.frz od (.dK kvs)) := fun {H' F' g} t => (t.keep d _ upd_same hfp).1
  cases r with
  | ok o env =>
    exact fun H' F' fp' v fr t s ro dj => .inr ⟨d, od, _, at' t, h0, h _ F' fp' v fr (t.unl hd hF) (s.over (unlock_stb (at' t)) (t.froz d hF)) (ro.mono (unlock_stb (at' t)) fun a q => ⟨upd_ne fun z => (ro.trk a q).2 (by rw [z]; exact t.froz d hF), id⟩) dj⟩
  | exc x env => exact h.elim
  | bad => exact h.elim
theorem OutO.unl0 {X : Cx} {W : WX} {r : Rs O} {Q : VK} {σ : Sg} {fp : List Addr} {H : Hp} {F : FA} (h : OutO (gx X) W σ fp H F (noX r) fun _ _ H' _ _ v _ => Q v H') : OutO (gx X) W σ fp H F r fun _ _ H' _ _ v _ => Q v H' ∨ UnlQ X H' (Q v) := by
  cases r with
  | ok o env => exact fun H' F' fp' v fr t s ro dj => .inl (h H' F' fp' v fr t s ro dj)
  | exc x env => exact h.elim
  | bad => exact h.elim
theorem noX_comp {tg : Tg} {ix : List Nat} {fc : En → Rs Bool} {fe : En → Rs D} {items : List D} {env : En} : noX (match compM tg ix fc fe items env with | .ok ys e => (.ok (.lst ys) e : Rs O) | _ => .bad) = match compM tg ix fc fe items env with | .ok ys e => .ok (.lst ys) e | _ => .bad := by
  cases compM tg ix fc fe items env <;> rfl
section
variable {X : Cx} {W : WX} {B : Bx} {pos : Pos} {elt t iter : Expr} {ifs : List Expr} {scope : Scope} {own : List (Str × Nat)} {f : En → Rs D} {tg : Tg} {fc : En → Rs Bool} {fe : En → Rs D}
theorem lc_readK {σ : Sg} {H : Hp} {Q : VK} {ix : List Nat} (h : tO (gx X) W (oComp (eKeys f) tg ix fc fe) σ H Q) :
    tLc (iKeysU X (tD (gx X) W f)) (tG (gx X) B0 ix tg) (tT (gx X) W0 fc) (tD (gx X) W0 fe) ix σ H fun v H' => Q v H' ∨ UnlQ X H' (Q v) := by
  obtain ⟨env, F, fp, st, h⟩ := h
  refine ⟨env, F, fp, st, Out.mono (Out.bind (OutO.bind h)) fun dd env1 H1 F1 fp1 t1 s1 h1 v r => ?_⟩
  have h2 : ∃ ds, dd = .dict ds ∧ OutO (gx X) W σ fp1 H1 F1 (match compM tg ix fc fe (keysD2 ds) (dropE ix env1) with | .ok ys e => .ok (.lst ys) e | _ => .bad) fun _ _ H' _ _ v _ => Q v H' := by
    cases dd with
    | dict ds => exact ⟨ds, rfl, h1 H1 F1 fp1 .refl s1⟩
    | _ => exact h1.elim
  obtain ⟨ds, rfl, h3⟩ := h2
  rw [← noX_comp] at h3
  cases r with
  | @dic a kvs _ fk q =>
    obtain ⟨hF, rd⟩ := fk
    have hfp : a ∉ fp1 := fun z => s1.re.nf a z hF
    rcases rd with hd | ⟨o, hd⟩
    · refine ⟨a, kvs, rfl, .inr ⟨hd, fun od h0 hz => ?_⟩⟩
      have sL := s1.over (lock_stb (od := od) hd) hF
      exact comp_core (W := W) sL (wk_keys hF upd_same (q.mono (lock_stb hd)) hz) (OutO.unl hd hF hfp h0 h3)
    · exact ⟨a, kvs, rfl, .inl ⟨o, hd, fun hz => comp_core (W := W) s1 (wk_keys hF hd q hz) (OutO.unl0 h3)⟩⟩
theorem po_compK (hc : X.calm = true) (hN : X.N.Nodup) (hi : PE X iter (tD (gx X) W f)) (ok : BlkOk X.N X.env.scope scope own)
    (hg : ∀ (s : Shared) (H : Hp) (C : Addr) (cl : List (Str × Addr)) (fp : List Addr), PG (X.blk s H scope (compEnvC scope cl C X.env) fp) t (tG (gx X) B0 (own.map (·.2)) tg))
    (ht : ∀ (s : Shared) (H : Hp) (C : Addr) (cl : List (Str × Addr)) (fp : List Addr), PTs (X.blk s H scope (compEnvC scope cl C X.env) fp) ifs (tT (gx X) W0 fc))
    (he : ∀ (s : Shared) (H : Hp) (C : Addr) (cl : List (Str × Addr)) (fp : List Addr), PE (X.blk s H scope (compEnvC scope cl C X.env) fp) elt (tD (gx X) W0 fe)) (hs : ∀ x, foldedSetIterable iter X.env x = pure x := by intro _; rfl) :
    PE X (.ListComp elt [⟨t, iter, ifs, 0⟩] scope pos) (tO (gx X) W (oComp (eKeys f) tg (own.map (·.2)) fc fe)) := PE.imp (pe_unl (pe_lc hc hN (pi_keysU hi) ok hg ht he hs)) fun σ H Q h => lc_readK h
end
/-! ### list(d.values()) -/
def valsD : D → Option D
  | .dict kvs => some (.list (kvs.map (·.2)))
  | _ => none
theorem RepK.vals {K : PySem.W.Frag} {H : Hp} {F : FA} : ∀ {vs : List (Key × V)} {ds : List (D × D)}, RepK K H F vs ds → RepA K H F (vs.map (·.2)) (ds.map (·.2))
  | _, _, .nil => .nil
  | _, _, .cons h t => .cons h (RepK.vals t)
theorem vals_at {vs : List (Key × Value)} : ∀ {kvs : List (Key × V)} {acc : List Value}, KV kvs vs → acc.length = vs.length → (∀ (j : Nat) (v : Value), acc[j]? = some v → ∃ k : Key, vs[j]? = some (k, v)) → Vals (kvs.map (·.2)) acc := by
  intro kvs acc r
  unfold KV at r
  induction r generalizing acc with
  | nil =>
    intro hl _
    cases acc with
    | nil => exact .nil
    | cons _ _ => cases hl
  | @cons p q ps qs h t ih =>
    intro hl hg
    cases acc with
    | nil => cases hl
    | cons v acc =>
      obtain ⟨k, e⟩ := hg 0 v rfl
      cases e
      exact .cons h.2 (ih (by simpa using hl) fun j v e => by
        obtain ⟨k, e2⟩ := hg (j + 1) v (by simpa using e)
        exact ⟨k, by simpa using e2⟩)
section
variable {X : Cx} {W : WX} {e : Expr} {f : En → Rs D} {p apos cpos pos : Pos}
theorem pd_listVals (hc : X.calm = true) (he : PE X e (tD (gx X) W f)) (hg : Gl X "list") (hm : X.mg "list" = none) (hbase : attributeBase e "values" X.env (eval e X.env) = eval e X.env := by rfl) (hline : (apos.endLine == cpos.line) = true := by rfl)
    (hs : starEach [.Call (.Attribute e "values" apos) [] [] cpos] X.env = (false, eval (.Call (.Attribute e "values" apos) [] [] cpos) X.env) :: starEach [] X.env := by rfl) :
    PE X (.Call (.Name "list" p) [.Call (.Attribute e "values" apos) [] [] cpos] [] pos) (tD (gx X) W (eUn valsD f)) := by
  refine ⟨fun pins s σ H Q I hq => ?_⟩
  refine wpAny_Call_Name_kw (ld_blt I hg hm (by decide +kernel : bootBuiltins "list" = some (.type "list")) ?_)
  refine PyProof.Rows.callWith_type1 ?_ hs rfl
  rw [hs]
  show wpAny _ _ (spliced ((false, eval (.Call (.Attribute e "values" apos) [] [] cpos) X.env) :: backTo pos (starEach [] X.env))) _ _ s
  refine Calls.spliced_cons ?_
  refine wpAny_Call_method (T := "dict") (id := "dict.values") hbase rfl hline F.plainAttrs_dict F.slot_dict_values F.type_dict_values (thn (he.run pins s σ H _ I (tD_un hq)) fun u s1 ⟨x, H1, I1, rx, F1, d1, d, r, ed, g⟩ => ?_)
  unfold valsD at ed
  split at ed
  · cases ed
    cases r with
    | @dic a kvs ds fk q =>
      obtain rfl : u = Value.ref a := rx
      obtain ⟨hz, hs0, vs, kv, hdo⟩ := dk_rd I1.hok fk.2
      obtain ⟨ep, hat⟩ := hdo.dictAt
      have lk : kvs.length = vs.length := Paired.length kv
      have I2 : Inv X pins σ H1 { s1 with heap := s1.heap.push { cls := .type "dict_values", data := .fields #[.ref a] } } := I1.kept (t' := s1.toks) fun b ob q => Heap.get?_push_of_some _ q
      refine ⟨hdo.typeIs, hdo.mapOf.noDict, ?_⟩
      show wpAny _ _ (callWith cpos (.builtin "dict.values") [.ref a] [] []) _ X.xe s1
      refine method_meetsIn F.slot_dict_values F.entry_dict_values rfl (PySem.evalArgs_none ⟨rfl, hdo.typeIs, F.args_dict_values_1 _, _, meets_dict_values (mixKind X.prog X.w) a hs0, ⟨vs, hdo⟩, ?_⟩)
      refine Calls.spliced_nil ?_
      refine PySem.W.kdl_call (PySem.W.kdl_values (knd := mixKind X.prog X.w) (kvs := vs) (ep := ep) (d := a)) (I1.ok.hd hc) ⟨⟨_, Heap.get?_push_size _ rfl, rfl, rfl⟩, hat.push _⟩ (by omega) fun h' tk acc c' hk hD hacc => ?_
      have hv : Vals (kvs.map (·.2)) acc.toList := vals_at kv (by rw [Array.length_toList]; exact hacc.1) fun j v e => hacc.2 j v (by rw [← Array.getElem?_toList]; exact e)
      have nn := I2.hok.fresh (Nat.le_refl _)
      refine ⟨.ref _, upd H1 _ (.lst (kvs.map (·.2))), I2.laid (t' := tk) hk (Nat.le_refl _)
        (show ObjOk X.prog X.w _ _ _ (.lst (kvs.map (·.2))) from ⟨by rw [List.length_map]; exact hz, acc.toList, c', hv, by rw [Array.toArray_toList]; exact hD⟩), rfl, g.lst q.vals _ nn⟩
  · cases ed
end
end VH
set_option Elab.async false
set_option linter.all false
set_option maxRecDepth 100000
set_option maxHeartbeats 4000000
namespace VH
open PySem PySem.Spec PyProof.Rows L2

/-! ### own exceptions of one field: class C(..): def __init__(self, f): self.f = f -/
def spI (K : PySem.W.Frag) (f : Str) : Sp := fun vs H Q _ => ∃ a C y, vs = [.ref a, y] ∧ OexC K C ∧ PySem.W.findIn K (.ref C) f = some none ∧ H a = some (exo a C none) ∧
  ∀ dx, H dx = none → dx ≠ a → Q .non (upd (upd H dx (exd dx [(f, y)])) a (exo a C (some dx)))
structure Xcl (P : Program) (w : World) (K : PySem.W.Frag) (mg : Str → Option Value) (base : Heap) (x f : Str) : Prop where
  ex : ∃ C fI fd ps, mg x = some (.ref C) ∧ OexC K C ∧ PySem.W.findIn K (.ref C) "__init__" = some (some (.ref fI)) ∧ PySem.W.typeIn K (.ref fI) = some (.type "function") ∧
    FnOk P w K mg base CX0 1 fI fd ps (spI K f) ∧ Binds K fd ps [] ∧ PySem.W.findIn K (.ref C) f = some none ∧ XfC K C ∧ PySem.W.exmOne K (.ref C) (.ref C) = some true
section
variable {P : Program} {w : World} {K : PySem.W.Frag} {mg : Str → Option Value} {base : Heap}
/-- the __init__ of one field, walked -/
theorem init_ok {x qual : Str} {fld : Str} {st : Stmt} {fI : Addr} {fd : FuncData} {self par : Str} {p1 p2 p3 p4 : Pos} (F : Fun K x qual st fI fd) (S : FnScope [self, par] [self, par] (defScope st))
    (hv1 : ∀ cdv A outer s H E, Vis (cxOf CX0 P w K mg base [self, par] qual (defScope st) fI cdv A outer s H E).nox.env.scope self) (hv2 : ∀ cdv A outer s H E, Vis (cxOf CX0 P w K mg base [self, par] qual (defScope st) fI cdv A outer s H E).nox.env.scope par)
    (hb : defBody st = [.Assign [.Attribute (.Name self p1) fld p2] (.Name par p3) p4]) (hd : (self == ("__debug__" : Str)) = false) (hcd : (self == ("__classdict__" : Str)) = false) (hd2 : (par == ("__debug__" : Str)) = false) (hcd2 : (par == ("__classdict__" : Str)) = false) : FnOk P w K mg base CX0 1 fI fd [self, par] (spI K fld) :=
  F.ok S (fun vs H Q E ⟨a, C, y, e, _⟩ => by rw [e]; rfl) fun cdv A outer s H vs Q E hr ⟨a, C, y, e, T, hno, ha, hq⟩ => by
    subst e
    rw [hb]
    refine ⟨_, pss_one (ps_ost (pe_var (i := 0) rfl (hv1 _ _ _ _ _ _) hd hcd) (pe_var (i := 1) rfl (hv2 _ _ _ _ _ _) hd2 hcd2)), ?_⟩
    exact ⟨y, rfl, .ref a, rfl, a, C, rfl, T, hno, .inl ⟨ha, fun dx n ne => hq dx n ne⟩⟩
end
def sRaise (x f : Str) (fe : En → Rs D) : En → Rs Fl := fun env₀ => (bnd fe fun d env => .exc ⟨x, [(f, d)]⟩ env) env₀
section
variable {X : Cx} {W : WX} {B : Bx} {e : Expr} {fe : En → Rs D} {p pos pos2 : Pos} {x f : Str}
theorem psd_raise {k : Nat} (hc : X.calm = true) (tk : Takes X W) (T : Xcl X.prog X.w X.K X.mg X.base x f) (hr : Room (k + 2) X.A) (hg : Gl X x) (he : PE X e (tD (gx X) W fe))
    (hdb : (x == ("__debug__" : Str)) = false := by decide) (hst : starEach (e :: []) X.env = (false, eval e X.env) :: starEach [] X.env := by rfl) (hpl : (backTo pos (starEach [] X.env)).any (·.1) = false := by rfl) :
    PS X (.Raise (some (.Call (.Name x p) [e] [] pos)) none pos2) (tS (gx X) W B (sRaise x f fe)) := by
  obtain ⟨C, fI, fd, ps, hm, oc, iC, tI, F1, hb, hno, _, _⟩ := T.ex
  refine PS.imp (ps_raise hc tk (pmk_oex oc iC tI F1 (hr.mono (by omega)) hb .nil pass0 hg hm (pa_cons he pa_nil hst) hdb hst hpl)) fun N σ H ⟨pn, env, F, fp, s, h⟩ => ?_
  refine ⟨env, F, fp, s, Out.mono (OutS.bind pn h) fun d env1 H1 F1 fp1 t1 s1 h1 v r => ⟨by simp, fun a na => ?_⟩⟩
  refine ⟨a, C, v, rfl, oc, hno, upd_same, fun dx ndx ne => ⟨rfl, dx, [(f, v)], upd_same, ?_, ?_, ?_⟩⟩
  · rw [upd_ne ne, upd_same]
  · rw [upd_ne ne] at ndx; exact ndx
  · have ndx' : H1 dx = none := by rw [upd_ne ne] at ndx; exact ndx
    have eq : upd (del (upd (upd (upd H1 a (exo a C none)) dx (exd dx [(f, v)])) a (exo a C (some dx))) a) dx (.xd [(f, v)]) = upd H1 dx (.xd [(f, v)]) := by
      funext b
      by_cases hb : b = dx
      · rw [hb, upd_same, upd_same]
      · rw [upd_ne hb, upd_ne hb]
        by_cases hb2 : b = a
        · rw [hb2, del_same, na]
        · rw [del_ne hb2, upd_ne hb2, upd_ne hb, upd_ne hb2]
    rw [eq]
    have nw : Nw H1 F1 (upd H1 dx (.xd [(f, v)])) F1 := ⟨fun b u z => ⟨by rw [upd_ne (ne_of_none z ndx')]; exact z, id⟩, fun _ z => z, fun fo b q => by
      obtain ⟨u, z⟩ := fo b q
      exact ⟨u, by rw [upd_ne (ne_of_none z ndx')]; exact z⟩⟩
    refine h1 σ (upd H1 dx (.xd [(f, v)])) F1 fp1 (.ref C) (some dx) pn nw.tr (nw.sta s1) ⟨C, hm, rfl, .inr ⟨dx, _, rfl, upd_same, .cons ⟨rfl, r.nw nw⟩ .nil⟩⟩
end
/-! ### try: .. except X as n: -/
def sTry (x : Str) (i : Nat) (fb : En → Rs Fl) (fh : Xc → En → Rs Fl) : En → Rs Fl := fun env => match fb env with
  | .exc e env1 => if e.cls = x ∧ i < env1.length then (match fh e (env1.set i none) with
      | .ok .nx env2 => .ok .nx (env2.set i none)
      | .ok .brk env2 => .ok .brk (env2.set i none)
      | .ok .cnt env2 => .ok .cnt (env2.set i none)
      | .ok (.ret o) env2 => .ok (.ret o) env2
      | .exc _ _ => .bad
      | .bad => .bad) else .bad
  | r => r
/-- the suite's reading: a the exception, cls its class, d its dict -/
def tX (G : Gx) (B : Bx) (i : Nat) (x : Str) (fh : Xc → En → Rs Fl) (a : Addr) (cls : Value) (d : Option Addr) : TS := fun N σ H => Pin B.bs B.vs σ ∧ σ[i]? = some (some (.ref a)) ∧ ∃ env F fp e, e.cls = x ∧ Sta G.K H F σ env fp ∧ RX G H F cls d e ∧ (∀ dd, d = some dd → dd ∉ fp) ∧
  env[i]? = some none ∧ OutS G W0 B fp H F (fh e env) N
theorem Pin.none {bs : List Bool} {vs : List V} {σ : Sg} {i : Nat} {w : Option V} (p : Pin bs vs σ) (h : bs[i]? ≠ some true) : Pin bs vs (σ.set i w) := p.set h
theorem set_nolen {α : Type} {l : List α} {i : Nat} {a : α} (h : ¬ i < l.length) : l.set i a = l := List.set_eq_of_length_le (by omega)
/-- a slot of which nothing is known may hold anything -/
theorem Sta.any {K : PySem.W.Frag} {H : Hp} {F : FA} {σ : Sg} {env : En} {fp : List Addr} {i : Nat} (s : Sta K H F σ env fp) (w : Option V) : ∃ fp', Sta K H F (σ.set i w) (env.set i none) fp' ∧ ∀ a ∈ fp', a ∈ fp := by
  by_cases hi : i < env.length
  · obtain ⟨v, o, f1, fr, e1, e2, rs, hm, hd, hk⟩ := s.re.split i hi
    obtain ⟨fp', re, hm'⟩ := hk H F w none [] .refl (fun _ _ => ⟨rfl, id⟩) .no (fun _ q => nomatch q)
    exact ⟨fp', ⟨re, s.fo⟩, fun a q => (hm a).mpr (.inr (((hm' a).mp q).resolve_left (by simp)))⟩
  · rw [set_nolen hi, set_nolen (by rw [s.re.length]; exact hi)]
    exact ⟨fp, s, fun _ h => h⟩
mutual
theorem RO.kind {K : PySem.W.Frag} {H : Hp} {F : FA} : ∀ {v : V} {o : O} {fp : List Addr}, RO K H F v o fp → ∀ a ∈ fp, (∃ xs, H a = some (.lst xs)) ∨ ∃ kvs, H a = some (.dK kvs)
  | _, _, _, .sh _ => fun _ h => nomatch h
  | _, _, _, .lst e f _ => fun b h => by
    rcases List.mem_singleton.mp h with rfl
    exact .inl ⟨_, e⟩
  | _, _, _, .dic e f r _ => fun b h => by
    rcases List.mem_cons.mp h with rfl | h
    · exact .inr ⟨_, e⟩
    · exact ROk.kind r b h
  | _, _, _, .scr _ => fun _ h => nomatch h
theorem ROk.kind {K : PySem.W.Frag} {H : Hp} {F : FA} : ∀ {v : List (Key × V)} {o : List (Key × O)} {fp : List Addr}, ROk K H F v o fp → ∀ a ∈ fp, (∃ xs, H a = some (.lst xs)) ∨ ∃ kvs, H a = some (.dK kvs)
  | _, _, _, .nil => fun _ h => nomatch h
  | _, _, _, .cons h t _ => fun b q => by
    rcases List.mem_append.mp q with q | q
    · exact RO.kind h b q
    · exact ROk.kind t b q
end
theorem REnv.kind {K : PySem.W.Frag} {H : Hp} {F : FA} : ∀ {σ : Sg} {env : En} {fp : List Addr}, REnv K H F σ env fp → ∀ a ∈ fp, (∃ xs, H a = some (.lst xs)) ∨ ∃ kvs, H a = some (.dK kvs)
  | _, _, _, .nil => fun _ h => nomatch h
  | _, _, _, .cons h t _ => fun b q => by
    rcases List.mem_append.mp q with q | q
    · cases h with
      | no => cases q
      | yes r => exact r.kind b q
    · exact REnv.kind t b q
theorem REnv.noxd {K : PySem.W.Frag} {H : Hp} {F : FA} {σ : Sg} {env : En} {fp : List Addr} (r : REnv K H F σ env fp) {a : Addr} {fs : List (Str × V)} (e : H a = some (.xd fs)) : a ∉ fp := fun q => by
  rcases r.kind a q with ⟨_, z⟩ | ⟨_, z⟩ <;> (rw [e] at z; cases z)
theorem REnv.notup {K : PySem.W.Frag} {H : Hp} {F : FA} {σ : Sg} {env : En} {fp : List Addr} (r : REnv K H F σ env fp) {a : Addr} {fs : List V} (e : H a = some (.tup fs)) : a ∉ fp := fun q => by
  rcases r.kind a q with ⟨_, z⟩ | ⟨_, z⟩ <;> (rw [e] at z; cases z)
section
variable {X : Cx} {W : WX} {B : Bx} {pos pos' np : Pos} {x n : Str} {i : Nat} {body suite : List Stmt} {b₀ : Stmt} {fb : En → Rs Fl} {fh : Xc → En → Rs Fl}
theorem psd_try {f : Str} (T : Xcl X.prog X.w X.K X.mg X.base x f) (hs : X.stack = X.env :: X.outer) (hf : X.env.frame = some X.env.locals) (hN : X.N.Nodup) (hln : X.env.kindOf n = some .local) (hg : Gl X x) (tk : Takes X W) (hbi : B.bs[i]? ≠ some true)
    (hb : ∀ (W : WX) (pn : List (Addr × Obj)) (xe : Value → Shared → Prop), Takes (X.tr pn xe) W → PassesOwn (model X.prog X.w) X.A X.env xe → PSs (X.tr pn xe) body (tS (gx X) W B fb))
    (hsu : ∀ (a : Addr) (oe : Obj) (cls : Value) (d : Option Addr) (pn : List (Addr × Obj)), Zc cls d oe → (∃ vs, oe.data = .fields vs) → PSs (X.suite a ((a, oe) :: pn)) (b₀ :: suite) (tX (gx X) B i x fh a cls d)) (hi : X.N[i]? = some n := by rfl)
    (hdb : (x == ("__debug__" : Str)) = false := by decide) : PS X (.Try body [.ExceptHandler (some (.Name x np)) (some n) (b₀ :: suite) pos'] [] [] pos) (tS (gx X) W B (sTry x i fb fh)) := by
  obtain ⟨C, fI, fd, ps, hm, _, _, _, _, _, _, _, hex⟩ := T.ex
  refine PS.imp (ps_try_as (i := i) hs hf hN hi hln ⟨hg, hdb, .inl hm⟩ tk hb hsu) fun N σ H ⟨p, env, F, fp, s, h⟩ => ⟨p, env, F, fp, s, ?_⟩
  unfold sTry at h
  cases eb : fb env with
  | bad => rw [eb] at h; exact h.elim
  | ok fl env1 =>
    rw [eb] at h
    cases fl with
    | nx => exact h
    | brk => exact h
    | cnt => exact h
    | ret o => exact h
  | exc e env1 =>
    rw [eb] at h
    dsimp only at h
    split at h
    · rename_i hx
      obtain ⟨hx, hi'⟩ := hx
      intro σ' H' F' fp' c o p' t' s' rx
      obtain ⟨C', hm', rfl, rx2⟩ := id rx
      rw [hx] at hm'
      have hm' : X.mg x = some (.ref C') := hm'
      rw [hm] at hm'
      cases hm'
      refine ⟨true, hex, fun _ a na => ?_, fun q => Bool.noConfusion q⟩
      obtain ⟨fp2, s2, m2⟩ := s'.any (i := i) (some (.ref a))
      refine ⟨p'.none hbi, List.getElem?_set_self (by rw [s'.re.length]; exact hi'), env1.set i none, F', fp2, e, hx, s2, rx, fun dd ed => ?_, List.getElem?_set_self hi', ?_⟩
      · rcases rx2 with ⟨z, _⟩ | ⟨d, fs, z, hd, _⟩
        · rw [z] at ed; cases ed
        · rw [z] at ed; cases ed
          exact s2.re.noxd hd
      · have t2 := t'.less m2
        cases eh : fh e (env1.set i none) with
        | bad => rw [eh] at h; exact h.elim
        | exc e2 env2 => rw [eh] at h; exact h.elim
        | ok fl env2 =>
          rw [eh] at h
          cases fl with
          | nx =>
            intro σ3 H3 F3 fp3 p3 t3 s3
            obtain ⟨fp4, s4, m4⟩ := s3.any (i := i) none
            exact h _ H3 F3 fp4 (p3.none hbi) ((t2.trans t3).less m4) s4
          | brk =>
            intro σ3 H3 F3 fp3 p3 t3 s3
            obtain ⟨fp4, s4, m4⟩ := s3.any (i := i) none
            exact h _ H3 F3 fp4 (p3.none hbi) ((t2.trans t3).less m4) s4
          | cnt =>
            intro σ3 H3 F3 fp3 p3 t3 s3
            obtain ⟨fp4, s4, m4⟩ := s3.any (i := i) none
            exact h _ H3 F3 fp4 (p3.none hbi) ((t2.trans t3).less m4) s4
          | ret o => exact fun σ3 H3 F3 fp3 v fr p3 t3 s3 r d => h σ3 H3 F3 fp3 v fr p3 (t2.trans t3) s3 r d
    · exact h.elim
/-- what the error's field holds -/
theorem xfield {K : PySem.W.Frag} {H : Hp} {F : FA} {f : Str} {d : D} : ∀ {fs : List (Str × V)} {es : List (Str × D)}, Paired (fun p q => p.1 = q.1 ∧ Rep K H F p.2 q.2) fs es → es.lookup f = some d → ∃ v, fs.lookup f = some v ∧ Rep K H F v d
  | _, _, .nil, e => nomatch e
  | (a, v) :: fs, (b, c) :: es, .cons ⟨h1, h2⟩ t, e => by
    cases (show a = b from h1)
    simp only [List.lookup] at e ⊢
    split at e
    · cases e; exact ⟨v, rfl, h2⟩
    · exact xfield t e
def xRet (f : Str) : Xc → En → Rs Fl := fun e env => match e.fs.lookup f with
  | some d => .ok (.ret (.sh d)) env
  | none => .bad
def xApp (j : Nat) (f : Str) : Xc → En → Rs Fl := fun e env => match env[j]?, e.fs.lookup f with
  | some (some (.lst ds)), some d => if ds.length < sizeLine then .ok .nx (env.set j (some (.lst (ds ++ [d])))) else .bad
  | _, _ => .bad
section
variable {a : Addr} {oe : Obj} {cls : Value} {d : Option Addr} {pn : List (Addr × Obj)} {f : Str} {p1 p2 p3 : Pos}
/-- the suite: return n.f -/
theorem psx_ret (T : Xcl X.prog X.w X.K X.mg X.base x f) (hz : Zc cls d oe) (hf : ∃ vs, oe.data = .fields vs) (hN : X.N[i]? = some n := by rfl) (hv : Vis X.env.scope n := by first | exact Or.inl rfl | exact Or.inr (Or.inl rfl) | exact Or.inr (Or.inr rfl))
    (hd : (n == ("__debug__" : Str)) = false := by decide) (hcd : (n == ("__classdict__" : Str)) = false := by decide) : PSs (X.suite a ((a, oe) :: pn)) [.Return (some (.Attribute (.Name n p1) f p2)) p3] (tX (gx X) B i x (xRet f) a cls d) := by
  obtain ⟨C, fI, fd, ps, hm, _, _, _, _, _, hno, xf, _⟩ := T.ex
  refine PSs.imp (pss_one (ps_ret (pe_xf (X := X) xf hno hz hf (pe_var (i := i) hN hv hd hcd)))) fun N σ H ⟨p, hσ, env, F, fp, e, hx, s, rx, hdf, hi, h⟩ => ?_
  obtain ⟨C', hm', rfl, rx2⟩ := rx
  rw [hx] at hm'
  have hm' : X.mg x = some (.ref C') := hm'
  rw [hm] at hm'
  cases hm'
  unfold xRet at h
  cases el : e.fs.lookup f with
  | none => rw [el] at h; exact h.elim
  | some y =>
    rw [el] at h
    rcases rx2 with ⟨_, z⟩ | ⟨dd, fs, rfl, hd, pr⟩
    · rw [z] at el; cases el
    · obtain ⟨v, ev, rv⟩ := xfield pr el
      exact ⟨_, hσ, rfl, rfl, dd, fs, v, rfl, hd, ev, h σ H F fp v [] p Tr.refl s (.sh rv) fun _ q => nomatch q⟩
/-- the suite: y.append(n.f) -/
theorem psx_app (T : Xcl X.prog X.w X.K X.mg X.base x f) (hz : Zc cls d oe) (hf : ∃ vs, oe.data = .fields vs) (j : Nat) {y : Str} {apos cpos q1 q2 : Pos} (hN : X.N[i]? = some n := by rfl) (hv : Vis X.env.scope n := by first | exact Or.inl rfl | exact Or.inr (Or.inl rfl) | exact Or.inr (Or.inr rfl))
    (hd : (n == ("__debug__" : Str)) = false := by decide) (hcd : (n == ("__classdict__" : Str)) = false := by decide)
    (hNy : X.N[j]? = some y := by rfl) (hvy : Vis X.env.scope y := by first | exact Or.inl rfl | exact Or.inr (Or.inl rfl) | exact Or.inr (Or.inr rfl))
    (hdy : (y == ("__debug__" : Str)) = false := by decide) (hcdy : (y == ("__classdict__" : Str)) = false := by decide) (hst : starEach [.Attribute (.Name n p1) f p2] X.env = (false, eval (.Attribute (.Name n p1) f p2) X.env) :: starEach [] X.env := by rfl)
    (hbase : attributeBase (.Name y q1) "append" X.env (eval (.Name y q1) X.env) = eval (.Name y q1) X.env := by rfl) (hline : (apos.endLine == cpos.line) = true := by rfl)
    (hfew : ((backTo cpos (starEach [.Attribute (.Name n p1) f p2] X.env)).all (fun x => !x.1) && (backToKw cpos (keywordEach [] X.env)).all (fun x => x.1.isSome) && decide (([.Attribute (.Name n p1) f p2] : List Expr).length + ([] : List Keyword).length + (if ([] : List Keyword).isEmpty then 0 else 1) < 30)) = true := by rfl)
    (hs : swapsWith (.Call (.Attribute (.Name y q1) "append" apos) [.Attribute (.Name n p1) f p2] [] cpos) none q2.line X.env = pure false := by rfl) :
    PSs (X.suite a ((a, oe) :: pn)) [.Expr (.Call (.Attribute (.Name y q1) "append" apos) [.Attribute (.Name n p1) f p2] [] cpos) q2] (tX (gx X) B i x (xApp j f) a cls d) := by
  obtain ⟨C, fI, fd, ps, hm, _, _, _, _, _, hno, xf, _⟩ := T.ex
  refine PSs.imp (pss_one (ps_expr (pe_bm PySem.F.plainAttrs_list PySem.F.slot_list_append PySem.F.type_list_append mt_append (pe_var (X := X.suite a ((a, oe) :: pn)) (i := j) hNy hvy hdy hcdy) (pa_cons (pe_xf (X := X) xf hno hz hf (pe_var (i := i) hN hv hd hcd)) pa_nil hst) hbase hfew hline hst) hs)) fun N σ H ⟨p, hσ, env, F, fp, e, hx, s, rx, hdf, hi, h⟩ => ?_
  obtain ⟨C', hm', rfl, rx2⟩ := rx
  rw [hx] at hm'
  have hm' : X.mg x = some (.ref C') := hm'
  rw [hm] at hm'
  cases hm'
  unfold xApp at h
  split at h
  · rename_i ds y he el
    split at h
    · rename_i hl
      rcases rx2 with ⟨_, z⟩ | ⟨dd, fs, rfl, hd, pr⟩
      · rw [z] at el; cases el
      · obtain ⟨v, ev, rv⟩ := xfield pr el
        obtain ⟨b, xs, e1, hb, q, k⟩ := lst_write (es := ds ++ [y]) s he
        obtain ⟨fp', t', s'⟩ := k (xs ++ [v]) (q.append (.cons rv .nil))
        exact ⟨_, e1, .inl ⟨rfl, _, SqL.of hb⟩, _, hσ, rfl, rfl, dd, fs, v, rfl, hd, ev, b, xs, v, rfl, rfl, hb, by rw [q.length]; exact hl, h σ _ F fp' p t' s'⟩
    · exact h.elim
  · exact h.elim
end
end
end VH
set_option Elab.async false
set_option linter.all false
set_option maxRecDepth 100000
set_option maxHeartbeats 4000000
namespace VH
open PySem PySem.Spec PyProof.Rows L2

/-! ### zip of two sequences, each a list or a tuple -/
def SqB (t : Bool) (K : PySem.W.Frag) (H : Hp) (a : Addr) (xs : List V) : Prop := match t with
  | true => SqT K H a xs
  | false => SqL K H a xs
def ItB (t : Bool) (h : Heap) (it l : Addr) (i : Nat) : Prop := match t with
  | true => h.IsTupleIter it l i
  | false => h.IsListIter it l i
def IsB (t : Bool) (h : Heap) (l : Addr) (xs : Array Value) : Prop := match t with
  | true => h.IsTuple l xs
  | false => h.IsList l xs
def itO (t : Bool) (l : Addr) : Obj := match t with
  | true => { cls := .type "tuple_iterator", data := .fields #[.ref l, .int 0 0] }
  | false => { cls := .type "list_iterator", data := .fields #[.ref l, .int 0 0] }
theorem ItB.at {t : Bool} {h h' : Heap} {it l : Addr} {i : Nat} (x : ItB t h it l i) (k : ∀ o, h.get? it = some o → h'.get? it = some o) : ItB t h' it l i := by
  cases t
  · exact Heap.IsListIter.at x k
  · exact Heap.IsTupleIter.at x k
theorem ItB.obj {t : Bool} {h : Heap} {it l : Addr} {i : Nat} (x : ItB t h it l i) : ∃ o vs, h.get? it = some o ∧ o.data = .fields vs := by
  cases t
  · obtain ⟨o, e, _, d⟩ := x; exact ⟨o, _, e, d⟩
  · obtain ⟨o, e, _, d⟩ := x; exact ⟨o, _, e, d⟩
theorem drawsB {prog : Program} {w : World} {A : Around} (hh : A.handled = none) (t : Bool) (it l : Addr) (hne : l ≠ it) (items : Array Value) :
    Draws prog w A it [it, l] items.size (fun i v => items[i]? = some v) (fun i h => ItB t h it l i ∧ IsB t h l items) := by
  cases t
  · exact Draws.list hh it l hne items
  · exact Draws.tuple hh it l hne items
theorem beginsB (t : Bool) (l : Addr) (items : Array Value) : Begins (.ref l) (itO t l) fun h => IsB t h l items := by
  cases t
  · exact begins_list l items
  · exact begins_tuple l items
theorem SqB.get {X : Cx} {pins : List (Addr × Obj)} {σ : Sg} {H : Hp} {s : Shared} (I : Inv X pins σ H s) {t : Bool} {a : Addr} {xs : List V} (h : SqB t X.K H a xs) : ∃ its : List Value, Vals xs its ∧ IsB t s.heap a its.toArray ∧ xs.length ≤ sizeLine := by
  cases t
  · obtain ⟨its, rv, p, z⟩ := I.list h; exact ⟨its, rv, p.isList, z⟩
  · obtain ⟨its, rv, p, z⟩ := I.tuple h; exact ⟨its, rv, p, z⟩
theorem IsB.lt {t : Bool} {h : Heap} {l : Addr} {xs : Array Value} (x : IsB t h l xs) : l < h.objs.size := by
  cases t
  · obtain ⟨o, e, _⟩ := x; exact Heap.lt_size e
  · obtain ⟨o, e, _⟩ := x; exact Heap.lt_size e
def ItzB (ta tb : Bool) (K : PySem.W.Frag) (a b : Addr) (n : Nat) : It :=
  ⟨fun i H => ∃ (xs ys : List V) (x y : V), SqB ta K H a xs ∧ SqB tb K H b ys ∧ min xs.length ys.length = n ∧ xs[i]? = some x ∧ ys[i]? = some y,
    fun i H v H' => ∃ T x y, v = .ref T ∧ H T = none ∧ H' = upd H T (.tup [x, y]) ∧ (∀ xs, SqB ta K H a xs → xs[i]? = some x) ∧ ∀ ys, SqB tb K H b ys → ys[i]? = some y,
    fun i H => ∃ xs ys : List V, SqB ta K H a xs ∧ SqB tb K H b ys ∧ min xs.length ys.length = n ∧ n ≤ i⟩
theorem SqB.inj {X : Cx} {pins : List (Addr × Obj)} {σ : Sg} {H : Hp} {s : Shared} (I : Inv X pins σ H s) {t : Bool} {a : Addr} {xs ys : List V} (h : SqB t X.K H a xs) (h2 : SqB t X.K H a ys) : xs = ys := by
  cases t
  · exact I.list_inj h h2
  · exact I.tuple_inj h h2
theorem turn_zipB {P : Program} {w : World} {K : PySem.W.Frag} {elts : List Expr} {kk : Nat} {tpos : Pos} {a b z TI TO i1 i2 : Addr} {n : Nat} (ta tb : Bool) (S : ZipSep2 z TI TO i1 i2 [i1, a] [i2, b]) (ha : a ≠ i1) (hb : b ≠ i2) :
    Turn P w K (.Tuple elts kk tpos) (ItzB ta tb K a b n) [z, TI, TO, i1, i2] z (fun i h => i ≤ n ∧ IsZip h z TI TO .none ∧ IsTupOf2 h TI (.ref i1) (.ref i2) ∧ (∃ x y, IsTupOf2 h TO x y) ∧ ItB ta h i1 a i ∧ ItB tb h i2 b i) where
  mem := by simp
  obj := fun i h st c hc => by
    obtain ⟨hn, hz, hTI, ⟨x, y, hTO⟩, h1, h2⟩ := st
    obtain ⟨o1, v1, e1, d1⟩ := h1.obj
    obtain ⟨o2, v2, e2, d2⟩ := h2.obj
    have e' : c = z ∨ c = TI ∨ c = TO ∨ c = i1 ∨ c = i2 := by simpa using hc
    rcases e' with q | q | q | q | q
    · rw [q]; exact ⟨_, hz, fun v q => nomatch q⟩
    · rw [q]; exact ⟨_, hTI, fun v q => nomatch q⟩
    · rw [q]; exact ⟨_, hTO, fun v q => nomatch q⟩
    · rw [q]; exact ⟨o1, e1, fun v q => by rw [d1] at q; cases q⟩
    · rw [q]; exact ⟨o2, e2, fun v q => by rw [d2] at q; cases q⟩
  keep := fun i h h' st k => by
    obtain ⟨hn, hz, hTI, ⟨x, y, hTO⟩, h1, h2⟩ := st
    exact ⟨hn, k z (by simp) _ hz, k TI (by simp) _ hTI, ⟨x, y, k TO (by simp) _ hTO⟩, h1.at fun o q => k i1 (by simp) o q, h2.at fun o q => k i2 (by simp) o q⟩
  item := by
    intro X hP hw hK hc i pins s σ H E I hf st hg
    subst hP hw hK
    obtain ⟨hn, hz, hTI, ⟨x0, y0, hTO⟩, h1, h2⟩ := st
    obtain ⟨xs, ys, x, y, hqx, hqy, hm, hx, hy⟩ := hg
    obtain ⟨its, rv, p, _⟩ := hqx.get I
    obtain ⟨its2, rv2, p2, _⟩ := hqy.get I
    obtain ⟨u, hu, ru⟩ := rv.get hx
    obtain ⟨u2, hu2, ru2⟩ := rv2.get hy
    have hzl : z < s.heap.objs.size := Heap.lt_size hz
    have D1 := drawsB (prog := X.prog) (w := X.w) (A := X.A.in1) (I.ok.hd hc) ta i1 a ha its.toArray
    have D2 := drawsB (prog := X.prog) (w := X.w) (A := X.A.in1) (I.ok.hd hc) tb i2 b hb its2.toArray
    have l1 : i < its.toArray.size := by have := (List.getElem?_eq_some_iff.mp hu).1; simpa using this
    have l2 : i < its2.toArray.size := by have := (List.getElem?_eq_some_iff.mp hu2).1; simpa using this
    refine wpAny_pyNext_zipD2_item S D1 D2 hz hTI hTO ⟨h1, p⟩ ⟨h2, p2⟩ l1 l2 fun x1 x2 h' tk q1 q2 z' TO' h1' h2' hT hsz hk => ?_
    have e1 : x1 = u := by
      have : its.toArray[i]? = some u := by simpa using hu
      rw [this] at q1; cases q1; rfl
    have e2 : x2 = u2 := by
      have : its2.toArray[i]? = some u2 := by simpa using hu2
      rw [this] at q2; cases q2; rfl
    subst e1 e2
    refine ⟨_, rfl, wpAny_letOwnedTupleGo_zip (s := { s with heap := h', toks := tk }) z' fun h'' z'' sb => ?_⟩
    have hT2 : h''.get? s.heap.objs.size = some { cls := .type "tuple", data := .seq #[x1, x2] } := (sb.2 _ (Nat.ne_of_gt hzl)).trans hT
    have new : ObjOk X.prog X.w (upd H s.heap.objs.size (.tup [x, y])) h'' s.heap.objs.size (.tup [x, y]) :=
      ⟨by show 2 ≤ sizeLine; decide, [x1, x2], .cons ru (.cons ru2 .nil), ⟨_, hT2, rfl, _, rfl⟩⟩
    have I1 : Inv X pins σ (upd H s.heap.objs.size (.tup [x, y])) { s with heap := h'', toks := tk } :=
      I.turnedNew (t' := tk) (ch := [z, TI, TO, i1, i2]) (fun c o hb q => (sb.2 c (fun q' => hb (by simp [q']))).trans (hk c o (fun q' => hb (by simp [q'])) (fun q' => hb (by simp [q'])) (fun q' => hb (by simp [q'])) (fun q' => hb (by simp [q'])) q)) hf (Nat.le_refl _) new
    refine ⟨.ref s.heap.objs.size, _, I1, rfl, ⟨_, x, y, rfl, I.hok.fresh (Nat.le_refl _), rfl, fun l hl => by rw [hl.inj I hqx]; exact hx, fun l hl => by rw [hl.inj I hqy]; exact hy⟩, ⟨by have := (List.getElem?_eq_some_iff.mp hx).1; have := (List.getElem?_eq_some_iff.mp hy).1; omega, z'', ?_, ⟨x1, x2, ?_⟩, ?_, ?_⟩, fun c hcm => ?_⟩
    · exact (sb.2 _ S.TIz).trans (hk _ _ S.TIz S.TITO S.TIi1 S.TIi2 hTI)
    · exact (sb.2 _ S.TOz).trans TO'
    · exact h1'.1.at fun o q => (sb.2 _ S.zi1.symm).trans q
    · exact h2'.1.at fun o q => (sb.2 _ S.zi2.symm).trans q
    · have hlt : c < s.heap.objs.size := by
        have e' : c = z ∨ c = TI ∨ c = TO ∨ c = i1 ∨ c = i2 := by simpa using hcm
        rcases e' with q | q | q | q | q
        · rw [q]; exact hzl
        · rw [q]; exact Heap.lt_size hTI
        · rw [q]; exact Heap.lt_size hTO
        · rw [q]; obtain ⟨_, _, e1, _⟩ := h1.obj; exact Heap.lt_size e1
        · rw [q]; obtain ⟨_, _, e2, _⟩ := h2.obj; exact Heap.lt_size e2
      rw [upd_ne (Nat.ne_of_lt hlt)]
      exact (hf c hcm).1
  done := by
    intro X hP hw hK hc i pins s σ H E I hf st hg
    subst hP hw hK
    obtain ⟨hn, hz, hTI, ⟨x0, y0, hTO⟩, h1, h2⟩ := st
    obtain ⟨xs, ys, hqx, hqy, hm, hi⟩ := hg
    obtain ⟨its, rv, p, _⟩ := hqx.get I
    obtain ⟨its2, rv2, p2, _⟩ := hqy.get I
    have l1 := rv.length
    have l2 := rv2.length
    have D1 := drawsB (prog := X.prog) (w := X.w) (A := X.A.in1) (I.ok.hd hc) ta i1 a ha its.toArray
    have D2 := drawsB (prog := X.prog) (w := X.w) (A := X.A.in1) (I.ok.hd hc) tb i2 b hb its2.toArray
    exact wpAny_pyNext_zipD2_end S D1 D2 hz hTI hTO ⟨h1, p⟩ ⟨h2, p2⟩ (by simp; omega) (by simp; omega) (by simp; omega) fun h' tk hk => ⟨rfl, I.turnedL (t' := tk) (ch := [z, TI, TO, i1, i2]) (fun c o hb q =>
      hk c o (fun q' => hb (by simp [q'])) (fun q' => hb (by simp [q'])) (fun q' => hb (by simp [q'])) (fun q' => hb (by simp [q'])) q) hf⟩
  self := fun A i s Q E st h => wpAny_pyIter_zip st.2.1 h
/-! ### as data -/
def seqT : D → Bool
  | .tuple _ => true
  | _ => false
def zipB : D → D → Option (List D)
  | .list xs, .list ys => some (zipL xs ys)
  | .tuple xs, .tuple ys => some (zipL xs ys)
  | .list xs, .tuple ys => some (zipL xs ys)
  | .tuple xs, .list ys => some (zipL xs ys)
  | _, _ => none
theorem zipB_sq {K : PySem.W.Frag} {H : Hp} {F : FA} {x : V} {d : D} (r : Rep K H F x d) (h : (∃ xs, d = .list xs) ∨ ∃ xs, d = .tuple xs) : ∃ a vs ds t, x = .ref a ∧ (d = .list ds ∨ d = .tuple ds) ∧ RepA K H F vs ds ∧ ∀ H2 F2, Kp H F H2 F2 → SqB t K H2 a vs := by
  rcases h with ⟨xs, rfl⟩ | ⟨xs, rfl⟩
  · cases r with
    | lst f q => exact ⟨_, _, _, false, rfl, .inl rfl, q, fun H2 F2 kp => (show SqL _ _ _ _ from .inl (.inl (kp.un _ _ f.1 f.2)))⟩
  · cases r with
    | tup f q => exact ⟨_, _, _, true, rfl, .inr rfl, q, fun H2 F2 kp => (show SqT _ _ _ _ from (f.mono kp.stb).sq)⟩
theorem zipB_of {d e : D} {items : List D} (h : zipB d e = some items) : ((∃ xs, d = .list xs) ∨ ∃ xs, d = .tuple xs) ∧ ((∃ xs, e = .list xs) ∨ ∃ xs, e = .tuple xs) ∧ ∀ xs ys, (d = .list xs ∨ d = .tuple xs) → (e = .list ys ∨ e = .tuple ys) → items = zipL xs ys := by
  unfold zipB at h
  split at h
  · cases h; exact ⟨.inl ⟨_, rfl⟩, .inl ⟨_, rfl⟩, fun xs ys h1 h2 => by rcases h1 with h1 | h1 <;> rcases h2 with h2 | h2 <;> cases h1 <;> cases h2; rfl⟩
  · cases h; exact ⟨.inr ⟨_, rfl⟩, .inr ⟨_, rfl⟩, fun xs ys h1 h2 => by rcases h1 with h1 | h1 <;> rcases h2 with h2 | h2 <;> cases h1 <;> cases h2; rfl⟩
  · cases h; exact ⟨.inl ⟨_, rfl⟩, .inr ⟨_, rfl⟩, fun xs ys h1 h2 => by rcases h1 with h1 | h1 <;> rcases h2 with h2 | h2 <;> cases h1 <;> cases h2; rfl⟩
  · cases h; exact ⟨.inr ⟨_, rfl⟩, .inl ⟨_, rfl⟩, fun xs ys h1 h2 => by rcases h1 with h1 | h1 <;> rcases h2 with h2 | h2 <;> cases h1 <;> cases h2; rfl⟩
  · cases h
theorem wk_zipB {K : PySem.W.Frag} {H : Hp} {F : FA} {a b : Addr} {xs ys : List V} {ds es : List D} {ta tb : Bool} (f : ∀ H2 F2, Kp H F H2 F2 → SqB ta K H2 a xs) (q : RepA K H F xs ds) (hz : xs.length ≤ sizeLine) (f' : ∀ H2 F2, Kp H F H2 F2 → SqB tb K H2 b ys) (q' : RepA K H F ys es) :
    Wk K (ItzB ta tb K a b (min xs.length ys.length)) H F (zipL ds es) where
  len := by rw [zipL_len, ← q.length]; omega
  go := fun H2 F2 kp i d e => by
    have sb := kp.stb
    obtain ⟨x, y, ex, ey, rfl⟩ := zipL_get e
    obtain ⟨v, ev, r⟩ := (q.mono sb).get ex
    obtain ⟨v', ev', r'⟩ := (q'.mono sb).get ey
    refine ⟨⟨xs, ys, v, v', f _ _ kp, f' _ _ kp, rfl, ev, ev'⟩, fun x H' ⟨T, x1, y1, ex1, nT, eH, y2, y3⟩ => ?_⟩
    have z := y2 xs (f _ _ kp)
    have z' := y3 ys (f' _ _ kp)
    rw [ev] at z; cases z
    rw [ev'] at z'; cases z'
    subst ex1 eH
    exact ⟨_, Nw.lay nT, .tup (.inl ⟨.inr rfl, upd_same⟩) (.cons (r.nw (Nw.lay nT)) (.cons (r'.nw (Nw.lay nT)) .nil))⟩
  stop := fun H2 F2 kp i h => ⟨xs, ys, f _ _ kp, f' _ _ kp, rfl, by rw [q.length, q'.length, ← zipL_len]; exact h⟩
def eZipB (f g : En → Rs D) : En → Rs (List D) := fun env₀ => (bnd f fun d => bnd g fun e => lift (zipB d e)) env₀
section
variable {X : Cx} {W : WX} {f g : En → Rs D} {p pos : Pos}
theorem pid_zipB {a b : Expr} {elts : List Expr} {kk : Nat} {tpos : Pos} (hg : Gl X "zip") (hm : X.mg "zip" = none) (ha : PE X a (tD (gx X) W f)) (hb : PE X b (tD (gx X) W g)) (hs : starEach [a, b] X.env = (false, eval a X.env) :: starEach [b] X.env := by rfl) (hs2 : starEach [b] X.env = (false, eval b X.env) :: starEach [] X.env := by rfl)
    (hpl : (backTo pos (starEach [b] X.env)).any (·.1) = false := by rfl) : PI X (.Tuple elts kk tpos) (.Call (.Name "zip" p) [a, b] [] pos) (tI (gx X) W (eZipB f g)) := by
  refine ⟨fun pins s σ H R I h => ?_⟩
  have hr : tCons (tD (gx X) W f) (tCons (tD (gx X) W g) tNil) σ H (fun vs H2 => ∃ x y F2 d e items, vs = [x, y] ∧ Rep X.K H2 F2 x d ∧ Rep X.K H2 F2 y e ∧ zipB d e = some items ∧ ∀ J, Wk X.K J H2 F2 items → R J H2) :=
    tD_imp (tI_D2 h) fun x H1 hq => tD_imp hq fun y H2 ⟨F2, d, e, items, q⟩ => ⟨x, y, F2, d, e, items, rfl, q⟩
  refine Call_ (ld_blt I hg hm PyProof.Rows.boot_zip (PyProof.Rows.callWith_type1 (thn ((pa_cons ha (pa_cons hb pa_nil hs2) hs).run pos pins s σ H _ I hr) fun us s1 ⟨vs, H1, I1, r1, x, y, F2, d, e, items, ev, rx, ry, ez, k⟩ => ?_) hs hpl))
  subst ev
  obtain ⟨z1, z2, z3⟩ := zipB_of ez
  obtain ⟨a1, xs, ds, ta, rfl, e1, q1, f1⟩ := zipB_sq rx z1
  obtain ⟨b1, ys, es, tb, rfl, e2, q2, f2⟩ := zipB_sq ry z2
  have ei := z3 ds es e1 e2
  subst ei
  cases r1 with
  | cons r rr =>
    cases rr with
    | cons r' rr =>
      cases rr
      cases r
      cases r'
      obtain ⟨its, rv, p1, hz⟩ := (f1 _ _ .refl).get I1
      obtain ⟨its2, rv2, p2, _⟩ := (f2 _ _ .refl).get I1
      have hla := p1.lt
      have hlb := p2.lt
      have fresh5 : ∀ c, c ∈ [s1.heap.objs.size + 4, s1.heap.objs.size + 2, s1.heap.objs.size + 3, s1.heap.objs.size, s1.heap.objs.size + 1] → FpOk X pins H1 c := fun c hcm => by
        have e' : c = s1.heap.objs.size + 4 ∨ c = s1.heap.objs.size + 2 ∨ c = s1.heap.objs.size + 3 ∨ c = s1.heap.objs.size ∨ c = s1.heap.objs.size + 1 := by simpa using hcm
        have hle : s1.heap.objs.size ≤ c := by
          rcases e' with z | z | z | z | z
          · rw [z]; exact Nat.le_add_right _ _
          · rw [z]; exact Nat.le_add_right _ _
          · rw [z]; exact Nat.le_add_right _ _
          · rw [z]; exact Nat.le_refl _
          · rw [z]; exact Nat.le_add_right _ _
        exact I1.fpOk hle (I1.hok.fresh hle)
      refine zip_begins2 (beginsB ta a1 its.toArray) (beginsB tb b1 its2.toArray) p1 p2 fun h' hz' hTI hTO h1 h2 hsz hk => wpAny_pyIter_zip hz' ?_
      have I2 : Inv X pins σ H1 { s1 with heap := h' } := I1.kept (t' := s1.toks) hk
      have i1 : ItB ta h' s1.heap.objs.size a1 0 := by
        cases ta
        · exact ⟨_, h1, rfl, rfl⟩
        · exact ⟨_, h1, rfl, rfl⟩
      have i2 : ItB tb h' (s1.heap.objs.size + 1) b1 0 := by
        cases tb
        · exact ⟨_, h2, rfl, rfl⟩
        · exact ⟨_, h2, rfl, rfl⟩
      have S : ZipSep2 (s1.heap.objs.size + 4) (s1.heap.objs.size + 2) (s1.heap.objs.size + 3) s1.heap.objs.size (s1.heap.objs.size + 1) [s1.heap.objs.size, a1] [s1.heap.objs.size + 1, b1] := zip_sep2 (fun c hc => by rw [List.mem_singleton.mp hc]; exact hla) (fun c hc => by rw [List.mem_singleton.mp hc]; exact hlb)
      exact ⟨s1.heap.objs.size + 4, [s1.heap.objs.size + 4, s1.heap.objs.size + 2, s1.heap.objs.size + 3, s1.heap.objs.size, s1.heap.objs.size + 1], _, _, H1, rfl, I2, turn_zipB ta tb S (Nat.ne_of_lt hla) (Nat.ne_of_lt (Nat.lt_succ_of_lt hlb)), ⟨Nat.zero_le _, hz', hTI, ⟨_, _, hTO⟩, i1, i2⟩, fresh5, k _ (wk_zipB f1 q1 hz f2 q2)⟩
end
theorem dn_zipB {p q : En → Pr D} : Dn (eZipB (eP p) (eP q)) (pSeq2 zipB p q) := fun env hs => by unfold eZipB pSeq2; simp only [pOf_bnd hs, pOf_lift]
/-! ### tuple * int -/
def repTD : D → D → Option D
  | .tuple xs, .int k => if xs ≠ [] ∧ 2 ≤ k ∧ k ≤ 1000 ∧ xs.length ≤ 1000 then some (.tuple (List.replicate k.toNat xs).flatten) else none
  | _, _ => none
theorem RepA.rep {K : PySem.W.Frag} {H : Hp} {F : FA} {vs : List V} {ds : List D} (r : RepA K H F vs ds) : ∀ n, RepA K H F (List.replicate n vs).flatten (List.replicate n ds).flatten
  | 0 => .nil
  | n + 1 => by
    rw [List.replicate_succ, List.replicate_succ, List.flatten_cons, List.flatten_cons]
    exact r.append (RepA.rep r n)
theorem od_repT {X : Cx} : OpD X (binaryOp .Mult) repTD := .of op_repT fun H F x y d1 d2 d Q r1 r2 e g => by
  unfold repTD at e
  split at e
  · split at e
    · rename_i h
      cases e
      cases r1 with
      | tup f q => cases r2; exact ⟨_, _, _, rfl, rfl, f.sq, fun z => h.1 (by cases q with | nil => rfl | cons _ _ => cases z), h.2.1, h.2.2.1, by rw [q.length]; exact h.2.2.2, g.tup (q.rep _)⟩
    · cases e
  · cases e
end VH
set_option Elab.async false
set_option linter.all false
set_option maxRecDepth 100000
set_option maxHeartbeats 4000000
namespace VH
open PySem PySem.Spec PyProof.Rows L2

/-! ### slots frozen -/
def frz1 (i : Nat) (env : En) : Option En := match env[i]? with
  | some (some o) => if o.fzb = true then some (env.set i (some (.sh (fz o)))) else none
  | _ => none
def frzS : List Nat → En → Option En
  | [], env => some env
  | i :: S, env => (frz1 i env).bind (frzS S)
theorem Sta.frz1 {K : PySem.W.Frag} {H : Hp} {F : FA} {σ : Sg} {env env' : En} {fp : List Addr} {i : Nat} (st : Sta K H F σ env fp) (h : VH.frz1 i env = some env') : ∃ F' fp', Tr fp H F H F' fp' ∧ Sta K H F' σ env' fp' ∧ (∀ a, F' a → F a ∨ a ∈ fp) := by
  unfold VH.frz1 at h
  split at h
  · rename_i o he
    split at h
    · rename_i hb
      cases h
      obtain ⟨v, f1, fr, e1, r, hm, hd, hk⟩ := pv_of st.re he
      have hF : ∀ a, F a → (F a ∨ a ∈ f1) := fun a q => .inl q
      have rep : Rep K H (fun a => F a ∨ a ∈ f1) v (fz o) := r.freeze hF (fun a q => .inr q) hb
      have sb : Stb H F H (fun a => F a ∨ a ∈ f1) := ⟨fun _ _ _ h _ _ => h, fun _ _ _ _ h => h, hF⟩
      obtain ⟨fp', re, hm'⟩ := hk H (fun a => F a ∨ a ∈ f1) (some v) (some (.sh (fz o))) [] sb (fun a q => ⟨rfl, fun z => z.elim id fun z => absurd q (hd a z)⟩) (.yes (.sh rep)) (fun _ q => nomatch q)
      rw [set_get e1] at re
      refine ⟨fun a => F a ∨ a ∈ f1, fp', ⟨fun a u e n => ⟨e, fun z => z.elim id fun z => absurd ((hm a).mpr (.inl z)) n⟩, hF, fun a q => .inl ((hm a).mpr (.inr (((hm' a).mp q).resolve_left (by simp))))⟩, ⟨re, fun a q => ?_⟩, fun a q => q.imp id fun q => (hm a).mpr (.inl q)⟩
      rcases q with q | q
      · exact st.fo a q
      · exact (r.trk a q).1
    · cases h
  · cases h
theorem Sta.frzS {K : PySem.W.Frag} {H : Hp} {σ : Sg} : ∀ {S : List Nat} {F : FA} {env env' : En} {fp : List Addr}, Sta K H F σ env fp → VH.frzS S env = some env' → ∃ F' fp', Tr fp H F H F' fp' ∧ Sta K H F' σ env' fp' ∧ (∀ a, F' a → F a ∨ a ∈ fp)
  | [], F, env, _, fp, st, h => by cases h; exact ⟨F, fp, .refl, st, fun a q => .inl q⟩
  | i :: S, F, env, env', fp, st, h => by
    obtain ⟨e1, h1, h2⟩ := Option.bind_eq_some_iff.mp (show (VH.frz1 i env).bind (VH.frzS S) = some env' from h)
    obtain ⟨F1, fp1, t1, s1, m1⟩ := st.frz1 h1
    obtain ⟨F2, fp2, t2, s2, m2⟩ := Sta.frzS s1 h2
    refine ⟨F2, fp2, t1.trans t2, s2, fun a q => ?_⟩
    rcases m2 a q with q | q
    · exact m1 a q
    · rcases t1.new a q with z | z
      · exact .inr z
      · obtain ⟨⟨u, e⟩, _⟩ := s1.re.trk a q
        rw [z] at e; cases e
/-! ### a look at a slot's own thing: the value that comes of it is no part of it -/
mutual
def flR : D → Bool
  | .none => true
  | .bool _ => true
  | .int _ => true
  | .str _ => true
  | .tuple ds => flRA ds
  | _ => false
def flRA : List D → Bool
  | [] => true
  | d :: ds => flR d && flRA ds
end
mutual
theorem Rep.fl {K : PySem.W.Frag} {H : Hp} {F F' : FA} (hF : ∀ a xs, F a → H a = some (.tup xs) → F' a) : ∀ {v : V} {d : D}, Rep K H F v d → flR d = true → Rep K H F' v d
  | _, _, .non, _ => .non
  | _, _, .bl b, _ => .bl b
  | _, _, .int i, _ => .int i
  | _, _, .str x, _ => .str x
  | _, _, .lst _ _, c => by cases c
  | _, _, .tup (.inl ⟨f, e⟩) r, c => .tup (.inl ⟨hF _ _ f e, e⟩) (RepA.fl hF r c)
  | _, _, .tup (.inr q) r, c => .tup (.inr q) (RepA.fl hF r c)
  | _, _, .dic _ _, c => by cases c
theorem RepA.fl {K : PySem.W.Frag} {H : Hp} {F F' : FA} (hF : ∀ a xs, F a → H a = some (.tup xs) → F' a) : ∀ {v : List V} {d : List D}, RepA K H F v d → flRA d = true → RepA K H F' v d
  | _, _, .nil, _ => .nil
  | _, _, .cons h t, c => by
    have c := Bool.and_eq_true_iff.mp c
    exact .cons (Rep.fl hF h c.1) (RepA.fl hF t c.2)
end
def ePk (S : List Nat) (f : En → Pr D) : En → Rs D := fun env => match frzS S env with
  | some env1 => match f (shE env1) with
    | .ok d => if flR d = true then .ok d env else .bad
    | _ => .bad
  | none => .bad
def ePkT (S : List Nat) (f : En → Pr Bool) : En → Rs Bool := fun env => match frzS S env with
  | some env1 => match f (shE env1) with
    | .ok d => .ok d env
    | _ => .bad
  | none => .bad
/-- frozen and read -/
def eFr {α : Type} (S : List Nat) (f : En → Rs α) : En → Rs α := fun env => match frzS S env with
  | some env1 => f env1
  | none => .bad
/-- back from a look -/
theorem unpeek {K : PySem.W.Frag} {H H' : Hp} {F F1 F' : FA} {σ : Sg} {env : En} {fp : List Addr} (st : Sta K H F σ env fp) (m : ∀ a, F1 a → F a ∨ a ∈ fp) (hF : ∀ a, F a → F1 a) (n : Nw H F1 H' F') (fo1 : Fo H F1) :
    Tr fp H F H' (fun a => F' a ∧ a ∉ fp) fp ∧ Sta K H' (fun a => F' a ∧ a ∉ fp) σ env fp := by
  have keep : ∀ a u, H a = some u → a ∉ fp → H' a = some u ∧ ((F' a ∧ a ∉ fp) → F a) := fun a u e h => ⟨(n.keep a u e).1, fun q => (m a ((n.keep a u e).2 q.1)).resolve_right h⟩
  have frz : ∀ a, F a → F' a ∧ a ∉ fp := fun a q => ⟨n.froz a (hF a q), fun z => st.re.nf a z q⟩
  have t : Tr fp H F H' (fun a => F' a ∧ a ∉ fp) fp := ⟨keep, frz, fun a q => .inl q⟩
  refine ⟨t, ⟨st.re.mono (t.stb st.re.nf) fun a q => ?_, fun a q => n.fo fo1 a q.1⟩⟩
  obtain ⟨⟨u, e⟩, _⟩ := st.re.trk a q
  exact ⟨(n.keep a u e).1.trans e.symm, fun z => absurd q z.2⟩
theorem REnv.kindN {K : PySem.W.Frag} {H H' : Hp} {F F1 F' : FA} {σ : Sg} {env : En} {fp : List Addr} (r : REnv K H F σ env fp) (n : Nw H F1 H' F') {a : Addr} {xs : List V} (e : H' a = some (.tup xs)) : a ∉ fp := fun q => by
  rcases r.kind a q with ⟨_, z⟩ | ⟨_, z⟩ <;> (rw [(n.keep a _ z).1] at e; cases e)
section
variable {X : Cx} {W : WX} {B : Bx} {e : Expr} {S : List Nat}
theorem pd_Pk (S : List Nat) {f : En → Pr D} (h : PE X e (tPD (gx X) W f)) : PE X e (tD (gx X) W (ePk S f)) := PE.imp h fun σ H Q ⟨env, F, fp, st, h⟩ => by
  unfold ePk at h
  cases e1 : frzS S env with
  | none => rw [e1] at h; exact h.elim
  | some env1 =>
    rw [e1] at h
    dsimp only at h
    obtain ⟨F1, fp1, t1, s1, m1⟩ := st.frzS e1
    refine ⟨shE env1, F1, s1.shE, ?_⟩
    cases e2 : f (shE env1) with
    | exc x => rw [e2] at h; exact h.elim
    | bad => rw [e2] at h; exact h.elim
    | ok d =>
      rw [e2] at h
      dsimp only at h
      split at h
      · rename_i hf
        intro H' F' n v r
        obtain ⟨z1, z2⟩ := unpeek st m1 t1.froz n s1.fo
        exact h H' _ fp z1 z2 v (r.fl (fun a xs q e => ⟨q, st.re.kindN n e⟩) hf)
      · exact h.elim
theorem ptd_Pk (S : List Nat) {f : En → Pr Bool} (h : PT X e (tPT (gx X) W f)) : PT X e (tT (gx X) W (ePkT S f)) := PT.imp h fun σ H Q ⟨env, F, fp, st, h⟩ => by
  unfold ePkT at h
  cases e1 : frzS S env with
  | none => rw [e1] at h; exact h.elim
  | some env1 =>
    rw [e1] at h
    dsimp only at h
    obtain ⟨F1, fp1, t1, s1, m1⟩ := st.frzS e1
    refine ⟨shE env1, F1, s1.shE, ?_⟩
    cases e2 : f (shE env1) with
    | exc x => rw [e2] at h; exact h.elim
    | bad => rw [e2] at h; exact h.elim
    | ok d =>
      rw [e2] at h
      intro H' F' n
      obtain ⟨z1, z2⟩ := unpeek st m1 t1.froz n s1.fo
      exact h H' _ fp z1 z2
theorem pd_Fr (S : List Nat) {f : En → Rs D} (h : PE X e (tD (gx X) W f)) : PE X e (tD (gx X) W (eFr S f)) := PE.imp h fun σ H Q ⟨env, F, fp, st, h⟩ => by
  unfold eFr at h
  cases e1 : frzS S env with
  | none => rw [e1] at h; exact h.elim
  | some env1 =>
    rw [e1] at h
    obtain ⟨F1, fp1, t1, s1, m1⟩ := st.frzS e1
    exact ⟨env1, F1, fp1, s1, Out.on h t1⟩
/-- a statement, behind which slots are frozen -/
def sFz (S : List Nat) (f : En → Rs Fl) : En → Rs Fl := fun env => match f env with
  | .ok .nx env1 => match frzS S env1 with
    | some env2 => .ok .nx env2
    | none => .bad
  | r => r
theorem psd_fz {st : Stmt} (S : List Nat) {f : En → Rs Fl} (h : PS X st (tS (gx X) W B f)) : PS X st (tS (gx X) W B (sFz S f)) := PS.imp h fun N σ H ⟨p, env, F, fp, s, h⟩ => by
  refine ⟨p, env, F, fp, s, ?_⟩
  unfold sFz at h
  cases eb : f env with
  | bad => rw [eb] at h; exact h
  | exc x env1 => rw [eb] at h; exact h
  | ok fl env1 =>
    rw [eb] at h
    cases fl with
    | brk => exact h
    | cnt => exact h
    | ret o => exact h
    | nx =>
      dsimp only at h
      cases e1 : frzS S env1 with
      | none => rw [e1] at h; exact h.elim
      | some env2 =>
        rw [e1] at h
        intro σ' H' F' fp' p' t' s'
        obtain ⟨F1, fp1, t1, s1, m1⟩ := s'.frzS e1
        exact h σ' H' F1 fp1 p' (t'.trans t1) s1
end
/-! ### pure parts of what is walked -/
def keysO : D → Option (List D)
  | .dict kvs => some (keysD2 kvs)
  | _ => none
theorem eSeqP_eq {op : D → Option (List D)} {p : En → Pr D} : (fun env₀ => (bnd (eP p) fun d => lift (op d)) env₀) = eP (pSeq op p) := by
  funext env
  unfold bnd eP pSeq lift
  cases p (shE env) with
  | ok d => dsimp only [Pr.bind]; cases op d <;> rfl
  | exc x => rfl
  | bad => rfl
theorem eKeys_P {p : En → Pr D} : eKeys (eP p) = eP (pSeq keysO p) := by
  funext env
  unfold eKeys bnd eP pSeq keysO
  cases p (shE env) with
  | ok d => dsimp only [Pr.bind]; cases d <;> rfl
  | exc x => rfl
  | bad => rfl
section
variable {X : Cx} {W : WX} {B : Bx} {pos : Pos} {elt t iter : Expr} {ifs : List Expr} {scope : Scope} {own : List (Str × Nat)} {p : En → Pr D} {tg : Tg} {fc : En → Rs Bool} {fe : En → Rs D}
theorem po_compKP (hc : X.calm = true) (hN : X.N.Nodup) (hi : PE X iter (tPD (gx X) W p)) (ok : BlkOk X.N X.env.scope scope own)
    (hg : ∀ (s : Shared) (H : Hp) (C : Addr) (cl : List (Str × Addr)) (fp : List Addr), PG (X.blk s H scope (compEnvC scope cl C X.env) fp) t (tG (gx X) B0 (own.map (·.2)) tg))
    (ht : ∀ (s : Shared) (H : Hp) (C : Addr) (cl : List (Str × Addr)) (fp : List Addr), PTs (X.blk s H scope (compEnvC scope cl C X.env) fp) ifs (tT (gx X) W0 fc))
    (he : ∀ (s : Shared) (H : Hp) (C : Addr) (cl : List (Str × Addr)) (fp : List Addr), PE (X.blk s H scope (compEnvC scope cl C X.env) fp) elt (tD (gx X) W0 fe)) (hs : ∀ x, foldedSetIterable iter X.env x = pure x := by intro _; rfl) :
    PE X (.ListComp elt [⟨t, iter, ifs, 0⟩] scope pos) (tO (gx X) W (oComp (eP (pSeq keysO p)) tg (own.map (·.2)) fc fe)) := by
  rw [← eKeys_P]
  exact po_compK hc hN (pd_P hi) ok hg ht he hs
theorem psd_forKP {ix : List Nat} {body : List Stmt} {fb : En → Rs Fl} (hp : PassesOwn (model X.prog X.w) X.A X.env X.xe) (hc : X.calm = true) (hi : PE X iter (tPD (gx X) W p)) (hg : PG X t (tG (gx X) B ix tg)) (hb : PSs X body (tS (gx X) W B fb))
    (hs : ∀ x, foldedSetIterable iter X.env x = pure x := by intro _; rfl) : PS X (.For t iter body [] pos) (tS (gx X) W B (sForK (eP (pSeq keysO p)) tg fb)) := by
  rw [← eKeys_P]
  exact psd_forK hp hc (pd_P hi) hg hb hs
end
theorem dn_un {op : D → Option D} {p : En → Pr D} : Dn (eUn op (eP p)) (pUn op p) := fun env hs => by unfold eUn pUn; simp only [pOf_bnd hs, pOf_lift]
/-! ### dict displays, pure -/
def pPairs : List ((En → Pr D) × (En → Pr D)) → En → Pr (List (D × D))
  | [] => fun _ => .ok []
  | (k, v) :: r => fun env => (k env).bind fun a => (v env).bind fun b => (pPairs r env).bind fun l => .ok ((a, b) :: l)
def dicD (l : List (D × D)) : Option D := match keysD l with
  | some ks => if ks.length ≤ 15 then some (.dict (fzK (shK (mergeD [] ks)))) else none
  | none => none
def pDic (ps : List ((En → Pr D) × (En → Pr D))) : En → Pr D := fun env => (pPairs ps env).bind fun l => .lift (dicD l)
theorem ePairs_P {env : En} (hs : shE env = env) : ∀ ps : List ((En → Pr D) × (En → Pr D)), ePairs (ps.map fun q => (eP q.1, eP q.2)) env = match pPairs ps env with
    | .ok l => .ok l env
    | .exc x => .exc x env
    | .bad => .bad
  | [] => rfl
  | (k, v) :: r => by
    have ih := ePairs_P hs r
    rw [List.map_cons]
    unfold ePairs pPairs bnd
    rw [eP_def hs]
    dsimp only
    cases k env with
    | exc x => rfl
    | bad => rfl
    | ok a =>
      dsimp only [Pr.bind]
      rw [eP_def hs]
      cases v env with
      | exc x => rfl
      | bad => rfl
      | ok b =>
        dsimp only
        rw [ih]
        cases pPairs r env <;> rfl
theorem fzb_shK : ∀ ks : List (Key × D), O.fzbK (shK ks) = true
  | [] => rfl
  | (k, d) :: r => by
    show (true && O.fzbK (shK r)) = true
    rw [fzb_shK r]; rfl
theorem dn_dic {ps : List ((En → Pr D) × (En → Pr D))} : Dn (eFz (oDic (ps.map fun q => (eP q.1, eP q.2)))) (pDic ps) := fun env hs => by
  unfold eFz oDic pOf pDic bnd dicD
  dsimp only
  rw [ePairs_P hs]
  cases pPairs ps env with
  | exc x => rfl
  | bad => rfl
  | ok l =>
    dsimp only [Pr.bind]
    cases keysD l with
    | none => rfl
    | some ks =>
      dsimp only
      by_cases c : ks.length ≤ 15
      · rw [if_pos c, if_pos c]
        dsimp only
        rw [if_pos (show O.fzb (.dic (shK (mergeD [] ks))) = true from fzb_shK _)]
        rfl
      · rw [if_neg c, if_neg c]
        rfl
theorem ptsd_nilP {X : Cx} {W : WX} : PTs X [] (tT (gx X) W (eP fun _ => .ok true)) := ptsd_nil
/-! ### d.get(k, x), d.get(k), d any reading -/
def get3 (d k x : D) : Option D := match d with
  | .dict kvs => (keyOf k).map fun key => (lookK kvs key).getD x
  | _ => none
def isDic : D → Option Unit
  | .dict _ => some ()
  | _ => none
def eGet3 (f g h : En → Rs D) : En → Rs D := fun env₀ => (bnd f fun d => bnd (lift (isDic d)) fun _ => bnd g fun k => bnd h fun x => lift (get3 d k x)) env₀
def pGet3 (f g h : En → Pr D) : En → Pr D := fun env => (f env).bind fun d => (Pr.lift (isDic d)).bind fun _ => (g env).bind fun k => (h env).bind fun x => .lift (get3 d k x)
def eGet2 (f g : En → Rs D) : En → Rs D := fun env₀ => (bnd f fun d => bnd (lift (isDic d)) fun _ => bnd g fun k => lift (get3 d k .none)) env₀
def pGet2 (f g : En → Pr D) : En → Pr D := fun env => (f env).bind fun d => (Pr.lift (isDic d)).bind fun _ => (g env).bind fun k => .lift (get3 d k .none)
theorem dn_get3 {p q r : En → Pr D} : Dn (eGet3 (eP p) (eP q) (eP r)) (pGet3 p q r) := fun env hs => by
  unfold eGet3 pGet3
  rw [pOf_bnd hs]
  congr 1; funext d
  cases e : isDic d with
  | none => rfl
  | some u => exact (pOf_bnd hs).trans (by simp only [pOf_bnd hs, pOf_lift]; rfl)
theorem dn_get2 {p q : En → Pr D} : Dn (eGet2 (eP p) (eP q)) (pGet2 p q) := fun env hs => by
  unfold eGet2 pGet2
  rw [pOf_bnd hs]
  congr 1; funext d
  cases e : isDic d with
  | none => rfl
  | some u => exact (pOf_bnd hs).trans (by simp only [pOf_lift]; rfl)
theorem get3_at {K : PySem.W.Frag} {H : Hp} {F : FA} {a : Addr} {kvs : List (Key × V)} {ds : List (D × D)} {key : Key} {z : V} {x : D} (q : RepK K H F kvs ds) (rz : Rep K H F z x) : Rep K H F ((valV kvs key).getD z) ((lookK ds key).getD x) := by
  obtain ⟨i1, i2⟩ := q.look (k := key)
  cases el : lookK ds key with
  | none => rw [i2 el]; exact rz
  | some d0 =>
    obtain ⟨v0, ev, rv⟩ := i1 d0 el
    rw [ev]; exact rv
section
variable {X : Cx} {W : WX} {o e f : Expr} {fo fk fx : En → Rs D} {apos cpos : Pos}
theorem pd_get3 (hu : X.A.units + 1 < cLine) (ho : PE X o (tD (gx X) W fo)) (he : PE X e (tD (gx X) W fk)) (hf : PE X f (tD (gx X) W fx)) (m : M2 X o "get" apos e f cpos) : PE X (.Call (.Attribute o "get" apos) [e, f] [] cpos) (tD (gx X) W (eGet3 fo fk fx)) :=
  PE.imp (pe_dget2 hu ho he hf m) fun σ H Q ⟨env, F, fp, st, h⟩ => by
    refine ⟨env, F, fp, st, Out.mono h.bind fun d env0 H0 F0 fp0 t0 s0 h0 v0 r0 => ?_⟩
    obtain ⟨u, eu, h1⟩ := h0.bind.lift
    unfold isDic at eu
    split at eu
    · cases r0 with
      | @dic a kvs ds fk q =>
        refine ⟨a, rfl, .inl ⟨_, fk.2⟩, env0, F0, fp0, s0, Out.mono (h1 H0 F0 fp0 .refl s0).bind fun k env1 H1 F1 fp1 t1 s1 h2 y ry => ?_⟩
        refine ⟨env1, F1, fp1, s1, Out.mono h2.bind fun x env2 H2 F2 fp2 t2 s2 h3 z rz => ?_⟩
        obtain ⟨d, ed, h4⟩ := h3.lift
        obtain ⟨key, ek, rfl⟩ := Option.map_eq_some_iff.mp (show (keyOf k).map (fun key => (lookK _ key).getD x) = some d from ed)
        have r2 := ((Rep.dic fk q).tr s0.re t1).tr s1.re t2
        cases r2 with
        | @dic _ _ ds fk2 q2 => exact ⟨valV _ key, .inl ⟨_, key, fk2.2, (ry.tr s1.re t2).key ek, rfl⟩, h4 H2 F2 fp2 .refl s2 _ (get3_at (a := a) q2 rz)⟩
    · cases eu
theorem pd_get2 (hu : X.A.units + 1 < cLine) (ho : PE X o (tD (gx X) W fo)) (he : PE X e (tD (gx X) W fk)) (m : M1 X o "get" apos e cpos) : PE X (.Call (.Attribute o "get" apos) [e] [] cpos) (tD (gx X) W (eGet2 fo fk)) :=
  PE.imp (pe_dget1 hu ho he m) fun σ H Q ⟨env, F, fp, st, h⟩ => by
    refine ⟨env, F, fp, st, Out.mono h.bind fun d env0 H0 F0 fp0 t0 s0 h0 v0 r0 => ?_⟩
    obtain ⟨u, eu, h1⟩ := h0.bind.lift
    unfold isDic at eu
    split at eu
    · cases r0 with
      | @dic a kvs ds fk q =>
        refine ⟨a, rfl, .inl ⟨_, fk.2⟩, env0, F0, fp0, s0, Out.mono (h1 H0 F0 fp0 .refl s0).bind fun k env1 H1 F1 fp1 t1 s1 h2 y ry => ?_⟩
        obtain ⟨d, ed, h4⟩ := h2.lift
        obtain ⟨key, ek, rfl⟩ := Option.map_eq_some_iff.mp (show (keyOf k).map (fun key => (lookK _ key).getD .none) = some d from ed)
        have r2 := (Rep.dic fk q).tr s0.re t1
        cases r2 with
        | @dic _ _ ds fk2 q2 => exact ⟨valV _ key, .inl ⟨_, key, fk2.2, ry.key ek, rfl⟩, h4 H1 F1 fp1 .refl s1 _ (get3_at (a := a) q2 .non)⟩
    · cases eu
end
/-! ### a, b = x, y -/
def sPar (i j : Nat) (g : En → Rs (List D)) : En → Rs Fl := fun env₀ => (bnd g fun ds env => match ds with
  | [a, b] => if i < env.length ∧ j < env.length then .ok .nx ((env.set i (some (.sh a))).set j (some (.sh b))) else .bad
  | _ => .bad) env₀
def sPar3 (i j l : Nat) (g : En → Rs (List D)) : En → Rs Fl := fun env₀ => (bnd g fun ds env => match ds with
  | [a, b, c] => if i < env.length ∧ j < env.length ∧ l < env.length then .ok .nx (((env.set i (some (.sh a))).set j (some (.sh b))).set l (some (.sh c))) else .bad
  | _ => .bad) env₀
theorem Sta.setSh {K : PySem.W.Frag} {H : Hp} {F : FA} {σ : Sg} {env : En} {fp : List Addr} {i : Nat} {v : V} {d : D} (s : Sta K H F σ env fp) (hi : i < env.length) (r : Rep K H F v d) : ∃ fp', Sta K H F (σ.set i (some v)) (env.set i (some (.sh d))) fp' ∧ ∀ a ∈ fp', a ∈ fp := by
  obtain ⟨fp', re, hm⟩ := put_slot s.re hi (RO.sh r) fun _ q => nomatch q
  exact ⟨fp', ⟨re, s.fo⟩, fun a q => by simpa using hm a q⟩
section
variable {X : Cx} {W : WX} {B : Bx} {pos : Pos}
theorem psd_par {i j : Nat} {x y : Str} {a b : Expr} {g : En → Rs (List D)} {px py pt : Pos} {kt k2 pt2} (hc : X.calm = true) (hN : X.N.Nodup) (hi : X.N[i]? = some x) (hj : X.N[j]? = some y) (hij : i ≠ j)
    (hx : X.env.scope.names.lookup x = some .local) (hy : X.env.scope.names.lookup y = some .local) (ha : PA X [a, b] (tAs (gx X) W g)) (hbi : B.bs[i]? ≠ some true) (hbj : B.bs[j]? ≠ some true)
    (hw : swappedStores [.Tuple [.Name x px, .Name y py] kt pt] (.Tuple [a, b] k2 pt2) X.env = pure (some [x, y]))
    (hs : swapsWithSole [.Tuple [.Name x px, .Name y py] kt pt] (.Tuple [a, b] k2 pt2) pos.line X.env = pure false := by rfl) :
    PS X (.Assign [.Tuple [.Name x px, .Name y py] kt pt] (.Tuple [a, b] k2 pt2) pos) (tS (gx X) W B (sPar i j g)) := PS.imp (ps_par hc hN hi hj hij hx hy ha hw hs) fun N σ H ⟨p, env, F, fp, s, h⟩ => by
  refine ⟨env, F, fp, s, Out.mono (OutS.bind p h) fun ds env1 H1 F1 fp1 t1 s1 h1 vs rs => ?_⟩
  split at h1
  · split at h1
    · rename_i hl
      cases rs with
      | cons r1 rs => cases rs with
        | cons r2 rs =>
          cases rs
          obtain ⟨fp2, s2, m2⟩ := s1.setSh hl.1 r1
          obtain ⟨fp3, s3, m3⟩ := s2.setSh (by rw [List.length_set]; exact hl.2) r2
          exact ⟨_, _, rfl, h1 _ H1 F1 fp3 ((p.set hbi).set hbj) (Tr.refl.less fun a q => m2 a (m3 a q)) s3⟩
    · exact h1.elim
  · exact h1.elim
theorem psd_par3 {i j l : Nat} {x y z : Str} {a b c : Expr} {g : En → Rs (List D)} {px py pz pt : Pos} {kt k2 pt2} (hc : X.calm = true) (hN : X.N.Nodup) (hi : X.N[i]? = some x) (hj : X.N[j]? = some y) (hk : X.N[l]? = some z) (hij : i ≠ j) (hil : i ≠ l) (hjl : j ≠ l)
    (hx : X.env.scope.names.lookup x = some .local) (hy : X.env.scope.names.lookup y = some .local) (hz : X.env.scope.names.lookup z = some .local) (ha : PA X [a, b, c] (tAs (gx X) W g)) (hbi : B.bs[i]? ≠ some true) (hbj : B.bs[j]? ≠ some true) (hbl : B.bs[l]? ≠ some true)
    (hw : swappedStores [.Tuple [.Name x px, .Name y py, .Name z pz] kt pt] (.Tuple [a, b, c] k2 pt2) X.env = pure (some [x, y, z]))
    (hs : swapsWithSole [.Tuple [.Name x px, .Name y py, .Name z pz] kt pt] (.Tuple [a, b, c] k2 pt2) pos.line X.env = pure false := by rfl) :
    PS X (.Assign [.Tuple [.Name x px, .Name y py, .Name z pz] kt pt] (.Tuple [a, b, c] k2 pt2) pos) (tS (gx X) W B (sPar3 i j l g)) := PS.imp (ps_par3 hc hN hi hj hk hij hil hjl hx hy hz ha hw hs) fun N σ H ⟨p, env, F, fp, s, h⟩ => by
  refine ⟨env, F, fp, s, Out.mono (OutS.bind p h) fun ds env1 H1 F1 fp1 t1 s1 h1 vs rs => ?_⟩
  split at h1
  · split at h1
    · rename_i hl
      cases rs with
      | cons r1 rs => cases rs with
        | cons r2 rs => cases rs with
          | cons r3 rs =>
            cases rs
            obtain ⟨fp2, s2, m2⟩ := s1.setSh hl.1 r1
            obtain ⟨fp3, s3, m3⟩ := s2.setSh (by rw [List.length_set]; exact hl.2.1) r2
            obtain ⟨fp4, s4, m4⟩ := s3.setSh (by rw [List.length_set, List.length_set]; exact hl.2.2) r3
            exact ⟨_, _, _, rfl, h1 _ H1 F1 fp4 (((p.set hbi).set hbj).set hbl) (Tr.refl.less fun a q => m2 a (m3 a (m4 a q))) s4⟩
    · exact h1.elim
  · exact h1.elim
end
end VH
set_option Elab.async false
set_option linter.all false
set_option maxRecDepth 100000
set_option maxHeartbeats 4000000
namespace L2
open PySem PySem.Spec PyProof.Rows
theorem tuple_mul0 (l : Addr) (n : Nat) (dd : Option Addr) (sl : Array (Option Value)) (x : Int) (u : Tok) (c0 : (decide (x < -(2 ^ 63)) || decide (x ≥ 2 ^ 63)) = false) :
    Meets (Builtin.«tuple.__mul__» ⟨[.ref l, .int x u], []⟩) (fun _ R s => s.heap.get? l = some { cls := .type "tuple", dict := dd, data := .seq #[] n, slots := sl } ∧ R (.ok (.ret (Value.ref l))) s) :=
  .of_wp fun prog w A R s h => by
    obtain ⟨hp, g, d, tk, os⟩ := s
    obtain ⟨hl, h⟩ := h
    have f1 := AutoSeq1.idx_int
    have c1 : ((#[] : Array Value).isEmpty || x == 1) = true := rfl
    wp_walk using wpAny_loadPart' hl
    repeat (first
      | (refine wpAny_ite_false (decide_eq_false (by rw [c0]; exact Bool.false_ne_true)) ?_; wp_walk using wpAny_loadPart' hl)
      | (refine wpAny_ite_true (decide_eq_true c1) ?_; wp_walk using wpAny_loadPart' hl))
    exact ⟨_, rfl, h⟩
theorem op_repT0 {X : Cx} : OpR X (binaryOp .Mult) (fun x y H Q => ∃ l k, x = .ref l ∧ y = .int k ∧ SqT X.K H l [] ∧ 2 ≤ k ∧ k ≤ 1000 ∧ Q (.ref l) H) := by
  intro pins s σ H x y v u Q I rx ry h
  obtain ⟨l, k, rfl, rfl, hT, h1, h2, q⟩ := h
  cases rx
  obtain ⟨t, rfl⟩ := ry
  obtain ⟨its, r, ⟨⟨cls, dd, data, sl⟩, ho, hc, n, hd⟩, hs⟩ := I.tuple hT
  simp only at hc hd
  subst hc hd
  cases r
  have c0 : (decide (k < -(2 ^ 63)) || decide (k ≥ 2 ^ 63)) = false := by
    rw [decide_eq_false (by omega), decide_eq_false (by omega)] <;> rfl
  exact wpAny_binaryOp_repeat_ref (T := "tuple") (U := "int") (by decide) ⟨_, ho, rfl⟩ (fun s' => typeIs_int s' k t) noFill_tuple_mul F.fills_int_mul F.slot_int_rmul repeat_tuple F.slot_int_index.lookup
    (call_meets F.slot_int_rmul (typeIs_int s k t) F.entry_int_rmul (F.args_int_rmul_2 _ _) (int_rmul_tuple k t l #[] n dd sl)
      ⟨ho, rfl, ⟨_, ho, rfl⟩, call_meets F.slot_tuple_mul ⟨_, ho, rfl⟩ F.entry_tuple_mul (F.args_tuple_mul_2 _ _) (tuple_mul0 l n dd sl k t c0) ⟨ho, ⟨.ref l, H, I, rfl, q⟩⟩⟩)
end L2
namespace VH
open PySem PySem.Spec PyProof.Rows L2
/-- tuple * int, 2 to 1000 times -/
def repTD2 : D → D → Option D
  | .tuple xs, .int k => if 2 ≤ k ∧ k ≤ 1000 ∧ xs.length ≤ 1000 then some (.tuple (List.replicate k.toNat xs).flatten) else none
  | _, _ => none
theorem od_repT2 {X : Cx} : OpD X (binaryOp .Mult) repTD2 := .of (L2.OpR.or op_repT op_repT0) fun H F x y d1 d2 d Q r1 r2 e g => by
  unfold repTD2 at e
  split at e
  · split at e
    · rename_i xs k h
      cases e
      cases r1 with
      | tup f q =>
        cases r2
        by_cases hn : xs = []
        · subst hn
          cases q
          refine .inr ⟨_, _, rfl, rfl, f.sq, h.1, h.2.1, ?_⟩
          have hz : (List.replicate k.toNat ([] : List D)).flatten = [] := by
            rw [List.flatten_eq_nil_iff]
            intro l hl
            exact List.eq_of_mem_replicate hl
          rw [hz] at g
          exact g.same (.tup f .nil)
        · exact .inl ⟨_, _, _, rfl, rfl, f.sq, fun z => hn (by cases q with | nil => rfl | cons _ _ => cases z), h.1, h.2.1, by rw [q.length]; exact h.2.2, g.tup (q.rep _)⟩
    · cases e
  · cases e
end VH
set_option Elab.async false
set_option linter.all false
set_option maxRecDepth 100000
set_option maxHeartbeats 4000000
namespace VC
open PySem PySem.Spec PyProof.Rows L2 VH
def c_CHARACTERS : Str := Str.ofString " !\"#$&'()*+,-./0123456789:;<=>?@ABCDEFGHIJKLMNOPQRSTUVWXYZ[\\]^_`abcdefghijklmnopqrstuvwxyz{|}~"
def c_LETTERS : Str := Str.ofString "abcdefghijklmnopqrstuvwxyz"
abbrev bs_is_integer : List Bool := [false]
def b_is_integer : En → Rs Fl := sRet (eSh (eP (pAndV (pMap (fun d => .bool (vi_int d)) (pVar 0)) (pNotV (pMap (fun d => .bool (vi_bool d)) (pVar 0))))))
def r_is_integer : List O → Rs O := fnRun bs_is_integer 1 b_is_integer
abbrev bs_is_plain_text : List Bool := [false]
def L1_is_plain_text : En → Rs Fl := sIf (eP (pB (pBin ninOp (pVar 1) (pC (.str c_CHARACTERS))))) (sRet (eSh (eP (pC (.bool false))))) (sNext)
def b_is_plain_text : En → Rs Fl := sSeq (sIf (eP (pNot (pB (pMap (fun d => .bool (vi_str d)) (pVar 0))))) (sRet (eSh (eP (pC (.bool false))))) (sNext)) (sSeq (sFor (eP (pSeq itemsD (pVar 0))) (tgN 1) (L1_is_plain_text)) (sRet (eSh (eP (pC (.bool true))))))
def r_is_plain_text : List O → Rs O := fnRun bs_is_plain_text 2 b_is_plain_text
abbrev bs_is_value : List Bool := [false]
def b_is_value (r_is_integer r_is_plain_text : List O → Rs O) : En → Rs Fl := sSeq (sIf (eP (pNN (pVar 0))) (sRet (eSh (eP (pC (.bool true))))) (sNext)) (sSeq (sIf (eP (pB (pCall r_is_integer (pCons (pVar 0) (pNil))))) (sRet (eSh (eP (pChain leD leD (pC (.int (-999999999))) (pVar 0) (pC (.int (999999999))))))) (sNext)) (sRet (eSh (eP (pAndV (pCall r_is_plain_text (pCons (pVar 0) (pNil))) (pBin leD (pAll lenD (pCons (pVar 0) (pNil))) (pC (.int (30)))))))))
def r_is_value : List O → Rs O := fnRun bs_is_value 1 (b_is_value r_is_integer r_is_plain_text)
abbrev bs_kind_of : List Bool := [false]
def b_kind_of : En → Rs Fl := sSeq (sIf (eP (pNN (pVar 0))) (sRet (eSh (eP (pC (.str (Str.ofString "")))))) (sNext)) (sSeq (sIf (eP (pB (pMap (fun d => .bool (vi_str d)) (pVar 0)))) (sRet (eSh (eP (pC (.str (Str.ofString "text")))))) (sNext)) (sRet (eSh (eP (pC (.str (Str.ofString "int")))))))
def r_kind_of : List O → Rs O := fnRun bs_kind_of 1 b_kind_of
abbrev bs_fits_column : List Bool := [false, false]
def b_fits_column (r_is_value r_kind_of : List O → Rs O) : En → Rs Fl := sSeq (sIf (eP (pNN (pVar 0))) (sRet (eSh (eP (pBin idxD (pVar 1) (pC (.int 2)))))) (sNext)) (sRet (eSh (eP (pAndV (pCall r_is_value (pCons (pVar 0) (pNil))) (pBin eqD (pCall r_kind_of (pCons (pVar 0) (pNil))) (pBin idxD (pVar 1) (pC (.int 1))))))))
def r_fits_column : List O → Rs O := fnRun bs_fits_column 2 (b_fits_column r_is_value r_kind_of)
abbrev bs_is_variable_name : List Bool := [false]
def b_is_variable_name : En → Rs Fl := sRet (eSh (eP (pAndV (pBin neD (pVar 0) (pC (.str (Str.ofString "")))) (pAll allD (pCons (pComp (pSeq itemsD (pVar 0)) (tgN 1) [1] (fun _ => .ok true) (pBin inOp (pVar 1) (pC (.str c_LETTERS)))) (pNil))))))
def r_is_variable_name : List O → Rs O := fnRun bs_is_variable_name 2 b_is_variable_name
abbrev bs_term_fits : List Bool := [false, false]
def b_term_fits (r_is_variable_name r_fits_column : List O → Rs O) : En → Rs Fl := sSeq (sIf (eP (pNN (pVar 0))) (sRet (eSh (eP (pBin idxD (pVar 1) (pC (.int 2)))))) (sNext)) (sSeq (sIf (eP (pB (pBin eqD (pBin idxD (pVar 0) (pC (.int 0))) (pC (.str (Str.ofString "var")))))) (sRet (eSh (eP (pCall r_is_variable_name (pCons (pBin idxD (pVar 0) (pC (.int 1))) (pNil)))))) (sNext)) (sRet (eSh (eP (pAndV (pMap (fun d => .bool (!isN d)) (pBin idxD (pVar 0) (pC (.int 1)))) (pCall r_fits_column (pCons (pBin idxD (pVar 0) (pC (.int 1))) (pCons (pVar 1) (pNil)))))))))
def r_term_fits : List O → Rs O := fnRun bs_term_fits 2 (b_term_fits r_is_variable_name r_fits_column)
abbrev bs_terms_fit : List Bool := [false, false]
def b_terms_fit (r_term_fits : List O → Rs O) : En → Rs Fl := sSeq (sIf (eP (pB (pBin neD (pAll lenD (pCons (pVar 0) (pNil))) (pAll lenD (pCons (pVar 1) (pNil)))))) (sRet (eSh (eP (pC (.bool false))))) (sNext)) (sRet (eSh (eP (pAll allD (pCons (pComp (pSeq2 zipB (pVar 0) (pVar 1)) (tgT 2 [tgN 2, tgN 3]) [2, 3] (fun _ => .ok true) (pCall r_term_fits (pCons (pVar 2) (pCons (pVar 3) (pNil))))) (pNil))))))
def r_terms_fit : List O → Rs O := fnRun bs_terms_fit 4 (b_terms_fit r_term_fits)
abbrev bs_kinds_of : List Bool := [false, false]
def L1_kinds_of : En → Rs Fl := sIf (eP (pAnd (pNNo (pVar 5)) (pB (pBin eqD (pBin idxD (pVar 5) (pC (.int 0))) (pC (.str (Str.ofString "var"))))))) (sSeq (sIf (ePkT [2] (pB (pBin neD (pGet3 (pVar 2) (pBin idxD (pVar 5) (pC (.int 1))) (pBin idxD (pVar 6) (pC (.int 1)))) (pBin idxD (pVar 6) (pC (.int 1)))))) (sRet (eSh (eP (pC .none)))) (sNext)) (sPut 2 (eP (pBin idxD (pVar 5) (pC (.int 1)))) (eP (pBin idxD (pVar 6) (pC (.int 1)))))) (sNext)
def L2_kinds_of : En → Rs Fl := sFor (eP (pSeq2 zipB (pVar 4) (pBin idxD (pBin idxD (pVar 0) (pVar 3)) (pC (.str (Str.ofString "columns")))))) (tgT 2 [tgN 5, tgN 6]) (L1_kinds_of)
def b_kinds_of : En → Rs Fl := sSeq (sSet 2 (oDic0)) (sSeq (sFor (eP (pSeq itemsD (pVar 1))) (tgT 2 [tgN 3, tgN 4]) (L2_kinds_of)) (sRet (eSh (eVar 2))))
def r_kinds_of : List O → Rs O := fnRun bs_kinds_of 7 b_kinds_of
abbrev bs_check_question : List Bool := [false, false]
def L1_check_question (r_terms_fit r_kinds_of : List O → Rs O) : En → Rs Fl := sIf (eP (pB (pBin ninOp (pVar 4) (pVar 0)))) (sRaise "QuestionError" "code" (eP (pC (.str (Str.ofString "table"))))) (sNext)
def L2_check_question (r_terms_fit r_kinds_of : List O → Rs O) : En → Rs Fl := sIf (eP (pNot (pB (pCall r_terms_fit (pCons (pVar 6) (pCons (pBin idxD (pBin idxD (pVar 0) (pVar 4)) (pC (.str (Str.ofString "columns")))) (pNil))))))) (sRaise "QuestionError" "code" (eP (pC (.str (Str.ofString "terms"))))) (sNext)
def b_check_question (r_terms_fit r_kinds_of : List O → Rs O) : En → Rs Fl := sSeq (sAsg (eP (pVar 1)) (tgT 2 [tgN 2, tgN 3])) (sSeq (sIf (eP (pOr (pNot (pB (pChain leD leD (pC (.int 1)) (pAll lenD (pCons (pVar 3) (pNil))) (pC (.int (6)))))) (pB (pBin gtD (pAll lenD (pCons (pVar 2) (pNil))) (pC (.int (4))))))) (sRaise "QuestionError" "code" (eP (pC (.str (Str.ofString "size"))))) (sNext)) (sSeq (sFor (eP (pSeq itemsD (pVar 3))) (tgT 2 [tgN 4, tgN 5]) (L1_check_question r_terms_fit r_kinds_of)) (sSeq (sFor (eP (pSeq itemsD (pVar 3))) (tgT 2 [tgN 4, tgN 6]) (L2_check_question r_terms_fit r_kinds_of)) (sSeq (sSet 7 (eSh (eP (pCall r_kinds_of (pCons (pVar 0) (pCons (pVar 3) (pNil))))))) (sSeq (sIf (eP (pNN (pVar 7))) (sRaise "QuestionError" "code" (eP (pC (.str (Str.ofString "kind"))))) (sNext)) (sIf (eP (pNot (pB (pAll allD (pCons (pComp (pSeq itemsD (pVar 2)) (tgN 8) [8] (fun _ => .ok true) (pBin inOp (pVar 8) (pVar 7))) (pNil)))))) (sRaise "QuestionError" "code" (eP (pC (.str (Str.ofString "head"))))) (sNext)))))))
def r_check_question : List O → Rs O := fnRun bs_check_question 9 (b_check_question r_terms_fit r_kinds_of)
abbrev bs__law_tape : List Bool := [true]
def L1__law_tape : En → Rs Fl := sSet 3 (eSh (eP (pBin modD (pAll intD (pCons (pBin addD (pBin mulD (pVar 3) (pC (.int 31))) (pVar 2)) (pNil))) (pC (.int 2147483647)))))
def b__law_tape : En → Rs Fl := sSeq (sFz [1] (sSet 1 (oComp (eScr 0) (tgN 2) [2] (ret true) (eP (pAll absD (pCons (pAll intD (pCons (pVar 2) (pNil))) (pNil))))))) (sSeq (sSet 3 (eSh (eP (pC (.int 7))))) (sSeq (sFor (eP (pSeq itemsD (pVar 1))) (tgN 2) (L1__law_tape)) (sRet (oDic [(eP (pC (.str (Str.ofString "cells"))), eP (pVar 1)), (eP (pC (.str (Str.ofString "at"))), eP (pC (.int 0))), (eP (pC (.str (Str.ofString "left"))), eP (pC (.int 0))), (eP (pC (.str (Str.ofString "seed"))), eP (pVar 3)), (eP (pC (.str (Str.ofString "salt"))), eP (pC (.int 0)))]))))
def r__law_tape : List O → Rs O := fnRun bs__law_tape 4 b__law_tape
abbrev bs__law_take : List Bool := [true, false]
def b__law_take : En → Rs Fl := sSeq (sIf (ePkT [0] (pAnd (pB (pBin eqD (pBin idxD (pVar 0) (pC (.str (Str.ofString "left")))) (pC (.int 0)))) (pB (pBin ltD (pBin idxD (pVar 0) (pC (.str (Str.ofString "at")))) (pAll lenD (pCons (pBin idxD (pVar 0) (pC (.str (Str.ofString "cells")))) (pNil))))))) (sSeq (sPut 0 (eP (pC (.str (Str.ofString "left")))) (ePk [0] (pBin idxD (pBin idxD (pVar 0) (pC (.str (Str.ofString "cells")))) (pBin idxD (pVar 0) (pC (.str (Str.ofString "at"))))))) (sPut 0 (eP (pC (.str (Str.ofString "at")))) (ePk [0] (pBin addD (pBin idxD (pVar 0) (pC (.str (Str.ofString "at")))) (pC (.int 1)))))) (sNext)) (sSeq (sIf (ePkT [0] (pB (pBin gtD (pBin idxD (pVar 0) (pC (.str (Str.ofString "left")))) (pC (.int 0))))) (sSeq (sSet 2 (eSh (ePk [0] (pBin modD (pAll intD (pCons (pBin idxD (pVar 0) (pC (.str (Str.ofString "left")))) (pNil))) (pVar 1))))) (sSeq (sPut 0 (eP (pC (.str (Str.ofString "left")))) (ePk [0] (pBin fdivD (pBin idxD (pVar 0) (pC (.str (Str.ofString "left")))) (pVar 1)))) (sRet (eSh (eP (pVar 2)))))) (sNext)) (sSeq (sPut 0 (eP (pC (.str (Str.ofString "salt")))) (ePk [0] (pBin addD (pBin idxD (pVar 0) (pC (.str (Str.ofString "salt")))) (pC (.int 1))))) (sSeq (sSet 3 (eSh (ePk [0] (pBin modD (pAll intD (pCons (pBin addD (pBin mulD (pBin idxD (pVar 0) (pC (.str (Str.ofString "seed")))) (pC (.int 48271))) (pBin mulD (pBin idxD (pVar 0) (pC (.str (Str.ofString "salt")))) (pC (.int 69621)))) (pNil))) (pC (.int 2147483647)))))) (sSeq (sSet 3 (eSh (ePk [0] (pBin modD (pAll intD (pCons (pBin addD (pBin addD (pBin mulD (pVar 3) (pVar 3)) (pBin mulD (pBin idxD (pVar 0) (pC (.str (Str.ofString "salt")))) (pC (.int 40692)))) (pC (.int 12345))) (pNil))) (pC (.int 2147483399)))))) (sRet (eSh (eP (pBin modD (pAll intD (pCons (pVar 3) (pNil))) (pVar 1)))))))))
def r__law_take : List O → Rs O := fnRun bs__law_take 4 b__law_take
abbrev bs__law_small : List Bool := [true, false, false]
def b__law_small (r__law_take : List O → Rs O) : En → Rs Fl := sSeq (sIf (eAnd (eP (pTru (pVar 2))) (eB (eBin eqD (eFz (eCallU r__law_take (aBor 0 (aVal (eP (pC (.int 5))) (aNil))))) (eP (pC (.int 0)))))) (sRet (eSh (eP (pC .none)))) (sNext)) (sRet (eSh (eIf (eP (pB (pBin eqD (pVar 1) (pC (.str (Str.ofString "int")))))) (eFz (eCallU r__law_take (aBor 0 (aVal (eP (pC (.int 4))) (aNil))))) (eBin idxD (eP (pC (.str (Str.ofString "xyz")))) (eFz (eCallU r__law_take (aBor 0 (aVal (eP (pC (.int 3))) (aNil)))))))))
def r__law_small : List O → Rs O := fnRun bs__law_small 3 (b__law_small r__law_take)
abbrev bs__law_plain_schema : List Bool := [true]
def L1__law_plain_schema (r__law_take : List O → Rs O) : En → Rs Fl := sApp 3 (eAll tupD (eCons (eP (pVar 4)) (eCons (eBin idxD (eP (pAll lstD (pCons (pC (.str (Str.ofString "int"))) (pCons (pC (.str (Str.ofString "text"))) (pNil))))) (eFz (eCallU r__law_take (aBor 0 (aVal (eP (pC (.int 2))) (aNil)))))) (eCons (eBin eqD (eFz (eCallU r__law_take (aBor 0 (aVal (eP (pC (.int 2))) (aNil))))) (eP (pC (.int 0)))) (eNil)))))
def L2__law_plain_schema (r__law_take : List O → Rs O) : En → Rs Fl := sSeq (sSet 3 (oLst (eCons (eAll tupD (eCons (eP (pC (.str (Str.ofString "id")))) (eCons (eBin idxD (eP (pAll lstD (pCons (pC (.str (Str.ofString "int"))) (pCons (pC (.str (Str.ofString "int"))) (pCons (pC (.str (Str.ofString "text"))) (pNil)))))) (eFz (eCallU r__law_take (aBor 0 (aVal (eP (pC (.int 3))) (aNil)))))) (eCons (eP (pC (.bool false))) (eNil))))) (eNil)))) (sSeq (sFor (eSeq (eSl (eP (pAll lstD (pCons (pC (.str (Str.ofString "a"))) (pCons (pC (.str (Str.ofString "b"))) (pCons (pC (.str (Str.ofString "c"))) (pNil)))))) (ret none) (ePart (eFz (eCallU r__law_take (aBor 0 (aVal (eP (pC (.int 4))) (aNil)))))))) (tgN 4) (L1__law_plain_schema r__law_take)) (sPut 1 (eP (pVar 2)) (eFr [3] (eP (pDic [(pC (.str (Str.ofString "columns")), pVar 3), (pC (.str (Str.ofString "checks")), pAll lstD (pNil)), (pC (.str (Str.ofString "uniques")), pAll lstD (pNil)), (pC (.str (Str.ofString "references")), pAll lstD (pNil))])))))
def b__law_plain_schema (r__law_take : List O → Rs O) : En → Rs Fl := sSeq (sSet 1 (oDic0)) (sSeq (sFor (eSeq (eSl (eP (pAll lstD (pCons (pC (.str (Str.ofString "p"))) (pCons (pC (.str (Str.ofString "q2"))) (pCons (pC (.str (Str.ofString "r"))) (pNil)))))) (ret none) (ePart (eBin addD (eP (pC (.int 1))) (eFz (eCallU r__law_take (aBor 0 (aVal (eP (pC (.int 3))) (aNil))))))))) (tgN 2) (L2__law_plain_schema r__law_take)) (sRet (eSh (eVar 1))))
def r__law_plain_schema : List O → Rs O := fnRun bs__law_plain_schema 5 (b__law_plain_schema r__law_take)
abbrev bs__law_term : List Bool := [true, false]
def b__law_term (r__law_take r__law_small : List O → Rs O) : En → Rs Fl := sSeq (sSet 2 (eSh (eFz (eCallU r__law_take (aBor 0 (aVal (eP (pC (.int 8))) (aNil))))))) (sSeq (sIf (eP (pAnd (pTru (pBin idxD (pVar 1) (pC (.int 2)))) (pB (pBin ltD (pVar 2) (pC (.int 2)))))) (sRet (eSh (eP (pC .none)))) (sNext)) (sSeq (sIf (eP (pB (pBin eqD (pVar 2) (pC (.int 2))))) (sRet (eSh (eAll tupD (eCons (eP (pC (.str (Str.ofString "is")))) (eCons (eFz (eCallU r__law_small (aBor 0 (aVal (eP (pBin idxD (pVar 1) (pC (.int 1)))) (aVal (eP (pC (.bool false))) (aNil)))))) (eNil)))))) (sNext)) (sSeq (sSet 3 (eSh (eP (pIf (pB (pBin eqD (pBin idxD (pVar 1) (pC (.int 1))) (pC (.str (Str.ofString "int"))))) (pAll lstD (pCons (pC (.str (Str.ofString "a"))) (pCons (pC (.str (Str.ofString "b"))) (pCons (pC (.str (Str.ofString "c"))) (pNil))))) (pAll lstD (pCons (pC (.str (Str.ofString "s"))) (pCons (pC (.str (Str.ofString "t"))) (pCons (pC (.str (Str.ofString "u"))) (pNil))))))))) (sRet (eSh (eAll tupD (eCons (eP (pC (.str (Str.ofString "var")))) (eCons (eSub 3 (eFz (eCallU r__law_take (aBor 0 (aVal (eP (pC (.int 3))) (aNil)))))) (eNil)))))))))
def r__law_term : List O → Rs O := fnRun bs__law_term 4 (b__law_term r__law_take r__law_small)
abbrev bs__law_question : List Bool := [true, false, false]
def L1__law_question (r__law_take r__law_term : List O → Rs O) : En → Rs Fl := sSeq (sSet 6 (eSh (eSub 3 (eFz (eCallU r__law_take (aBor 0 (aVal (eP (pAll lenD (pCons (pVar 3) (pNil)))) (aNil)))))))) (sApp 4 (eAll tupD (eCons (eP (pVar 6)) (eCons (eAll tupOfD (eCons (eFz (oComp (eP (pSeq itemsD (pBin idxD (pBin idxD (pVar 1) (pVar 6)) (pC (.str (Str.ofString "columns")))))) (tgN 7) [7] (ret true) (eFz (eCallU r__law_term (aBor 0 (aVal (eP (pVar 7)) (aNil))))))) (eNil))) (eNil)))))
def L2__law_question (r__law_take r__law_term : List O → Rs O) : En → Rs Fl := sSet 8 (eSh (eP (pBin addD (pVar 8) (pComp (pSeq itemsD (pVar 9)) (tgN 10) [10] (pAnd (pNNo (pVar 10)) (pAnd (pB (pBin eqD (pBin idxD (pVar 10) (pC (.int 0))) (pC (.str (Str.ofString "var"))))) (pB (pBin ninOp (pBin idxD (pVar 10) (pC (.int 1))) (pVar 8))))) (pBin idxD (pVar 10) (pC (.int 1)))))))
def L3__law_question (r__law_take r__law_term : List O → Rs O) : En → Rs Fl := sIf (eP (pB (pBin neD (pVar 8) (pAll lstD (pNil))))) (sApp 11 (eSub 8 (eFz (eCallU r__law_take (aBor 0 (aVal (eP (pAll lenD (pCons (pVar 8) (pNil)))) (aNil))))))) (sNext)
def b__law_question (r__law_take r__law_term : List O → Rs O) : En → Rs Fl := sSeq (sSet 3 (eSh (eP (pAll sortDD (pCons (pVar 1) (pNil)))))) (sSeq (sSet 4 (oLst (eP (pNil)))) (sSeq (sFor (eRng (eBin addD (eP (pC (.int 1))) (eFz (eCallU r__law_take (aBor 0 (aVal (eP (pVar 2)) (aNil))))))) (tgN 5) (L1__law_question r__law_take r__law_term)) (sSeq (sSet 8 (eSh (eP (pAll lstD (pNil))))) (sSeq (sFor (eSeq (eVar 4)) (tgT 2 [tgN 6, tgN 9]) (L2__law_question r__law_take r__law_term)) (sSeq (sSet 11 (oLst (eP (pNil)))) (sSeq (sFor (eRng (eFz (eCallU r__law_take (aBor 0 (aVal (eP (pC (.int 3))) (aNil)))))) (tgN 5) (L3__law_question r__law_take r__law_term)) (sRet (eSh (ePk [4, 11] (pAll tupD (pCons (pAll tupOfD (pCons (pVar 11) (pNil))) (pCons (pAll tupOfD (pCons (pVar 4) (pNil))) (pNil)))))))))))))
def r__law_question : List O → Rs O := fnRun bs__law_question 12 (b__law_question r__law_take r__law_term)
end VC
set_option Elab.async false
set_option linter.all false
set_option maxRecDepth 100000
set_option maxHeartbeats 4000000
namespace VH
open PySem PySem.Spec PyProof.Rows L2

/-! ### the plain side: what runs give -/
theorem seq_ok {f g : En → Rs Fl} {env e : En} (h : f env = .ok .nx e) : sSeq f g env = g e := by unfold sSeq; rw [h]
theorem seq_ret {f g : En → Rs Fl} {env e : En} {o : O} (h : f env = .ok (.ret o) e) : sSeq f g env = .ok (.ret o) e := by unfold sSeq; rw [h]
theorem seq_exc {f g : En → Rs Fl} {env e : En} {x : Xc} (h : f env = .exc x e) : sSeq f g env = .exc x e := by unfold sSeq; rw [h]
/-- what a def that lends nothing gives -/
def pr (r : Rs O) : Pr D := match r with
  | .ok o _ => oR o
  | .exc x _ => .exc x
  | .bad => .bad
def out (r : Rs Fl) : Pr D := match r with
  | .ok (.ret o) _ => oR o
  | .ok .nx _ => .ok .none
  | .ok _ _ => .bad
  | .exc x _ => .exc x
  | .bad => .bad
theorem pr_run {bs : List Bool} {tot : Nat} {b : En → Rs Fl} {os : List O} : pr (fnRun bs tot b os) = out (b (os.map some ++ List.replicate (tot - os.length) none)) := by
  unfold fnRun pr out
  cases b (os.map some ++ List.replicate (tot - os.length) none) with
  | ok fl e => cases fl <;> rfl
  | exc x e => rfl
  | bad => rfl
theorem pCall_pr {run : List O → Rs O} {fa : En → Pr (List D)} {env : En} : pCall run fa env = (fa env).bind fun ds => pr (run (ds.map .sh)) := by
  unfold pCall pr
  rfl
theorem out_seq_ok {f g : En → Rs Fl} {env e : En} (h : f env = .ok .nx e) : out (sSeq f g env) = out (g e) := by rw [seq_ok h]
theorem oR_sh {d : D} : oR (.sh d) = .ok d := rfl
theorem oR_lst {ds : List D} : oR (.lst ds) = .ok (.list ds) := rfl
/-! ### loops -/
inductive Ex where
  | ret (o : O)
  | exc (x : Xc)
def Got {β : Type} (r : Rs Fl) (m : Except Ex β) (S : β → En → Prop) (R : En → Prop) : Prop := match m with
  | .ok b => ∃ env', r = .ok .nx env' ∧ S b env'
  | .error (.ret o) => ∃ env', r = .ok (.ret o) env' ∧ R env'
  | .error (.exc x) => ∃ env', r = .exc x env' ∧ R env'
theorem Got.seq {β γ : Type} {f g : En → Rs Fl} {env : En} {m : Except Ex β} {k : β → Except Ex γ} {S : β → En → Prop} {S' : γ → En → Prop} {R : En → Prop} (h : Got (f env) m S R) (h2 : ∀ b e, m = .ok b → S b e → Got (g e) (k b) S' R) : Got (sSeq f g env) (m >>= k) S' R := by
  cases m with
  | ok b =>
    obtain ⟨e, h1, hs⟩ := h
    rw [seq_ok h1]
    exact h2 b e rfl hs
  | error x => cases x with
    | ret o =>
      obtain ⟨e, h1, hr⟩ := h
      exact ⟨e, seq_ret h1, hr⟩
    | exc x =>
      obtain ⟨e, h1, hr⟩ := h
      exact ⟨e, seq_exc h1, hr⟩
theorem Got.ok {β : Type} {r : Rs Fl} {b : β} {S : β → En → Prop} {R : En → Prop} {e : En} (h : r = .ok .nx e) (hs : S b e) : Got r (.ok b) S R := ⟨e, h, hs⟩
theorem Got.loop {α β : Type} {e : α → D} {tg : Tg} {body : En → Rs Fl} {step : β → α → Except Ex β} {S : β → En → Prop} {R : En → Prop} {P : α → Prop}
    (turn : ∀ b a env, P a → S b env → ∃ env1, tg (e a) env = some env1 ∧ Got (body env1) (step b a) S R) : ∀ (xs : List α) (b : β) (env : En), (∀ a ∈ xs, P a) → S b env → Got (loopS tg body (xs.map e) env) (xs.foldlM step b) S R
  | [], b, env, _, h => ⟨env, rfl, h⟩
  | a :: xs, b, env, hp, h => by
    obtain ⟨env1, e1, g⟩ := turn b a env (hp a List.mem_cons_self) h
    have ih := Got.loop turn xs
    rw [List.map_cons, List.foldlM_cons]
    unfold loopS
    rw [e1]
    cases hm : step b a with
    | ok b' =>
      rw [hm] at g
      obtain ⟨e2, h2, hs⟩ := g
      dsimp only
      rw [h2]
      exact ih b' e2 (fun x q => hp x (List.mem_cons_of_mem _ q)) hs
    | error x =>
      rw [hm] at g
      cases x with
      | ret o =>
        obtain ⟨e2, h2, hr⟩ := g
        dsimp only
        rw [h2]
        exact ⟨e2, rfl, hr⟩
      | exc x =>
        obtain ⟨e2, h2, hr⟩ := g
        dsimp only
        rw [h2]
        exact ⟨e2, rfl, hr⟩
theorem Got.loopL {α β : Type} {e : α → D} {tg : Tg} {body : En → Rs Fl} {step : β → α → Except Ex β} {S : List α → β → En → Prop} {R : En → Prop} {P : α → Prop}
    (turn : ∀ b a r env, P a → S (a :: r) b env → ∃ env1, tg (e a) env = some env1 ∧ Got (body env1) (step b a) (S r) R) : ∀ (xs : List α) (b : β) (env : En), (∀ a ∈ xs, P a) → S xs b env → Got (loopS tg body (xs.map e) env) (xs.foldlM step b) (S []) R
  | [], b, env, _, h => ⟨env, rfl, h⟩
  | a :: xs, b, env, hp, h => by
    obtain ⟨env1, e1, g⟩ := turn b a xs env (hp a List.mem_cons_self) h
    have ih := Got.loopL turn xs
    rw [List.map_cons, List.foldlM_cons]
    unfold loopS
    rw [e1]
    cases hm : step b a with
    | ok b' =>
      rw [hm] at g
      obtain ⟨e2, h2, hs⟩ := g
      dsimp only
      rw [h2]
      exact ih b' e2 (fun x q => hp x (List.mem_cons_of_mem _ q)) hs
    | error x =>
      rw [hm] at g
      cases x with
      | ret o =>
        obtain ⟨e2, h2, hr⟩ := g
        dsimp only
        rw [h2]
        exact ⟨e2, rfl, hr⟩
      | exc x =>
        obtain ⟨e2, h2, hr⟩ := g
        dsimp only
        rw [h2]
        exact ⟨e2, rfl, hr⟩
theorem loop_ex {α : Type} {e : α → D} {tg : Tg} {body : En → Rs Fl} {I : List α → En → Prop} {all : List α}
    (turn : ∀ pre a post env, all = pre ++ a :: post → I pre env → ∃ env1 env2, tg (e a) env = some env1 ∧ body env1 = .ok .nx env2 ∧ I (pre ++ [a]) env2) : ∀ (xs pre : List α) (env : En), all = pre ++ xs → I pre env → ∃ env', loopS tg body (xs.map e) env = .ok .nx env' ∧ I all env'
  | [], pre, env, h, hi => ⟨env, rfl, by rw [h, List.append_nil]; exact hi⟩
  | a :: xs, pre, env, h, hi => by
    obtain ⟨env1, env2, e1, e2, h2⟩ := turn pre a xs env h hi
    obtain ⟨env', e3, h3⟩ := loop_ex turn xs (pre ++ [a]) env2 (by rw [h]; simp) h2
    refine ⟨env', ?_, h3⟩
    rw [List.map_cons]
    unfold loopS
    simp only [e1, e2, e3]
theorem putO_new {kvs : List (Key × O)} {k : Key} {v : O} (h : ∀ p ∈ kvs, p.1 ≠ k) : putO kvs k v = kvs ++ [(k, v)] := by
  unfold putO
  have : (kvs.any fun kv => decide (kv.1 = k)) = false := by
    rw [List.any_eq_false]
    intro p hp
    simpa using h p hp
  rw [if_neg (by rw [this]; exact Bool.false_ne_true)]
theorem sl_take {k : Nat} (xs : List D) : slD none (some (k : Int)) (.list xs) = some (.list (xs.take k)) := by
  show some (PyData.list (cutA xs none (some (k : Int)))) = _
  unfold cutA
  rw [HT.sIx_none, HT.sIx_nat, List.drop_zero, Nat.sub_zero]
  congr 2
  by_cases h : k ≤ xs.length
  · rw [Nat.min_eq_left h]
  · rw [Nat.min_eq_right (by omega), List.take_length, List.take_of_length_le (by omega)]
theorem sl_takeT {k : Nat} (xs : List D) : slD none (some (k : Int)) (.tuple xs) = some (.tuple (xs.take k)) := by
  show some (PyData.tuple (cutA xs none (some (k : Int)))) = _
  unfold cutA
  rw [HT.sIx_none, HT.sIx_nat, List.drop_zero, Nat.sub_zero]
  congr 2
  by_cases h : k ≤ xs.length
  · rw [Nat.min_eq_left h]
  · rw [Nat.min_eq_right (by omega), List.take_length, List.take_of_length_le (by omega)]
theorem rngL_map (n : Nat) : rngL 0 n = (List.range n).map fun (i : Nat) => PyData.int (0 + i) := rfl
theorem rng1_nat {k : Nat} (hk : k ≤ 1000000) : rng1D (.int (k : Int)) = some (rngL 0 k) := by
  have h1 : ((k : Int)) ≤ 1000000 := by omega
  have h0 : (0 : Int) ≤ k := by omega
  have : ∀ z : Int, 0 ≤ z → z ≤ 1000000 → rng1D (.int z) = some (rngL 0 z.toNat) := by
    intro z h0 h1
    show (if _ then _ else _) = _
    have hz : z.toNat ≤ sizeLine := by rw [sizeLine_eq]; omega
    rw [if_pos ⟨by omega, by omega, hz⟩]
  rw [this _ h0 h1, Int.toNat_natCast]
theorem for_eq {fi : En → Pr (List D)} {tg : Tg} {body : En → Rs Fl} {env : En} {items : List D} (h : fi (shE env) = .ok items) : sFor (eP fi) tg body env = loopS tg body items env := by
  unfold sFor bnd eP
  rw [h]
theorem forI_eq {fi : En → Rs (List D)} {tg : Tg} {body : En → Rs Fl} {env env1 : En} {items : List D} (h : fi env = .ok items env1) : sFor fi tg body env = loopS tg body items env1 := by
  unfold sFor bnd
  rw [h]
theorem forK_eq {fi : En → Pr (List D)} {tg : Tg} {body : En → Rs Fl} {env : En} {items : List D} (h : fi (shE env) = .ok items) : sForK (eP fi) tg body env = noX (loopS tg body items env) := by
  unfold sForK bnd eP
  rw [h]
def exOut {β : Type} : Except Ex β → Pr D
  | .ok _ => .ok .none
  | .error (.ret o) => oR o
  | .error (.exc x) => .exc x
theorem Got.out {β : Type} {r : Rs Fl} {m : Except Ex β} {S : β → En → Prop} {R : En → Prop} (h : Got r m S R) : VH.out r = exOut m := by
  cases m with
  | ok b => obtain ⟨e, h1, _⟩ := h; subst h1; rfl
  | error x => cases x with
    | ret o => obtain ⟨e, h1, _⟩ := h; subst h1; rfl
    | exc x => obtain ⟨e, h1, _⟩ := h; subst h1; rfl
theorem foldlM_err {α β ε : Type} {step : β → α → Except ε β} {P : ε → Prop} (h : ∀ b a e, step b a = .error e → P e) : ∀ (xs : List α) (b : β) (e : ε), xs.foldlM step b = .error e → P e
  | [], b, e, q => nomatch q
  | a :: xs, b, e, q => by
    rw [List.foldlM_cons] at q
    cases hm : step b a with
    | ok b' => rw [hm] at q; exact foldlM_err h xs b' e q
    | error x =>
      rw [hm] at q
      have e1 : x = e := Except.error.inj q
      subst e1
      exact h b a x hm
/-! ### comprehensions -/
theorem mapP_map {α β : Type} {e : α → D} {f : D → Pr (Option β)} {k : α → Option β} : ∀ {xs : List α}, (∀ a ∈ xs, f (e a) = .ok (k a)) → mapP f (xs.map e) = .ok (xs.filterMap k)
  | [], _ => rfl
  | a :: xs, h => by
    have ih := mapP_map (f := f) (k := k) (xs := xs) fun x q => h x (List.mem_cons_of_mem _ q)
    rw [List.map_cons]
    unfold mapP
    rw [h a List.mem_cons_self, ih]
    cases hk : k a with
    | none => simp [List.filterMap_cons, hk]
    | some y => simp [List.filterMap_cons, hk]
theorem mapP_all {α β : Type} {e : α → D} {f : D → Pr (Option β)} {k : α → β} {xs : List α} (h : ∀ a ∈ xs, f (e a) = .ok (some (k a))) : mapP f (xs.map e) = .ok (xs.map k) := by
  rw [mapP_map (k := fun a => some (k a)) h, List.filterMap_eq_map']
theorem pCompL_eq {fi : En → Pr (List D)} {tg : Tg} {ix : List Nat} {fc : En → Pr Bool} {fe : En → Pr D} {env : En} {items ys : List D} (h : fi env = .ok items) (h2 : mapP (pItem tg fc fe (dropE ix env)) items = .ok ys) : pComp fi tg ix fc fe env = .ok (.list ys) := by
  unfold pComp pCompL
  rw [h]
  simp only [Pr.bind, h2, okB]
/-! ### small values -/
theorem eq_str (a b : Str) : eqD (.str a) (.str b) = some (.bool (a == b)) := rfl
theorem ne_str (a b : Str) : neD (.str a) (.str b) = some (.bool (!(a == b))) := rfl
theorem eq_int (a b : Int) : eqD (.int a) (.int b) = some (.bool (a == b)) := rfl
theorem ne_int (a b : Int) : neD (.int a) (.int b) = some (.bool (!(a == b))) := rfl
theorem add_int (a b : Int) : addD (.int a) (.int b) = some (.int (a + b)) := rfl
theorem le_int (a b : Int) : leD (.int a) (.int b) = some (.bool (decide (a ≤ b))) := rfl
theorem lt_int (a b : Int) : ltD (.int a) (.int b) = some (.bool (decide (a < b))) := rfl
theorem gt_int (a b : Int) : gtD (.int a) (.int b) = some (.bool (decide (b < a))) := rfl
theorem ge_int (a b : Int) : geD (.int a) (.int b) = some (.bool (decide (b ≤ a))) := rfl
theorem ixt0 (a : D) (r : List D) : idxD (.tuple (a :: r)) (.int 0) = some a := atI_nat (j := 0) rfl
theorem ixt1 (a b : D) (r : List D) : idxD (.tuple (a :: b :: r)) (.int 1) = some b := atI_nat (j := 1) rfl
theorem ixt2 (a b c : D) (r : List D) : idxD (.tuple (a :: b :: c :: r)) (.int 2) = some c := atI_nat (j := 2) rfl
theorem ixl0 (a : D) (r : List D) : idxD (.list (a :: r)) (.int 0) = some a := atI_nat (j := 0) rfl
theorem ixl1 (a b : D) (r : List D) : idxD (.list (a :: b :: r)) (.int 1) = some b := atI_nat (j := 1) rfl
theorem tup0 : tupD [] = some (.tuple []) := rfl
theorem tup1 (a : D) : tupD [a] = some (.tuple [a]) := rfl
theorem tup2 (a b : D) : tupD [a, b] = some (.tuple [a, b]) := rfl
theorem tup3 (a b c : D) : tupD [a, b, c] = some (.tuple [a, b, c]) := rfl
theorem lst0 : lstD [] = some (.list []) := rfl
theorem lst1 (a : D) : lstD [a] = some (.list [a]) := rfl
theorem lst2 (a b : D) : lstD [a, b] = some (.list [a, b]) := rfl
theorem lst3 (a b c : D) : lstD [a, b, c] = some (.list [a, b, c]) := rfl
theorem len_list (xs : List D) : lenD [.list xs] = some (.int xs.length) := rfl
theorem len_tuple (xs : List D) : lenD [.tuple xs] = some (.int xs.length) := rfl
theorem items_list (xs : List D) : itemsD (.list xs) = some xs := rfl
theorem items_tuple (xs : List D) : itemsD (.tuple xs) = some xs := rfl
theorem it_of_list {xs : List D} : listOfD [.list xs] = some (.list xs) := by simp [listOfD]
theorem isN_none : isN .none = true := rfl
theorem isN_int {i : Int} : isN (.int i) = false := rfl
theorem isN_str {i : Str} : isN (.str i) = false := rfl
theorem isN_bool {i : Bool} : isN (.bool i) = false := rfl
theorem isN_tup {i : List D} : isN (.tuple i) = false := rfl
theorem isN_lst {i : List D} : isN (.list i) = false := rfl
theorem isN_dic {i : List (D × D)} : isN (.dict i) = false := rfl
theorem nat_le (a b : Nat) : decide ((a : Int) ≤ b) = decide (a ≤ b) := by simp
theorem shS_sh {d : D} : shS (some (.sh d)) = some (.sh d) := rfl
theorem shS_lst {d : List D} : shS (some (.lst d)) = none := rfl
theorem shS_dic {d : List (Key × O)} : shS (some (.dic d)) = none := rfl
theorem shS_scr {d : List Int} : shS (some (.scr d)) = some (.scr d) := rfl
theorem shS_none : shS none = none := rfl
theorem eRng_eq {f : En → Rs D} {env env1 : En} {z : Int} {items : List D} (h : f env = .ok (.int z) env1) (h2 : rng1D (.int z) = some items) : eRng f env = .ok items env1 := by
  unfold eRng bnd lift
  rw [h]
  dsimp only
  rw [h2]
theorem pSeq_eq {op : D → Option (List D)} {f : En → Pr D} {env : En} {d : D} {items : List D} (h : f env = .ok d) (h2 : op d = some items) : pSeq op f env = .ok items := by
  unfold pSeq Pr.bind Pr.lift
  rw [h]
  dsimp only
  rw [h2]
end VH
set_option Elab.async false
set_option linter.all false
set_option maxRecDepth 100000
set_option maxHeartbeats 4000000
namespace VC
open PySem PySem.Spec PyProof.Rows L2 VH
/-! ### values, columns, terms -/
abbrev Val := Option Key
def vD : Val → D
  | none => .none
  | some k => kD k
def VOk : Val → Prop
  | some (.inr x) => x.length ≤ 1000
  | _ => True
structure Col where
  name : Str
  int : Bool
  null : Bool
def kindS (b : Bool) : Str := if b then Str.ofString "int" else Str.ofString "text"
def colD (c : Col) : D := .tuple [.str c.name, .str (kindS c.int), .bool c.null]
inductive Term where
  | any
  | is (v : Val)
  | var (x : Str)
def tmD : Term → D
  | .any => .none
  | .is v => .tuple [.str (Str.ofString "is"), vD v]
  | .var x => .tuple [.str (Str.ofString "var"), .str x]
def TOk : Term → Prop
  | .any => True
  | .is v => VOk v
  | .var x => x.length ≤ 1000
abbrev Atom := Str × List Term
def atD (a : Atom) : D := .tuple [.str a.1, .tuple (a.2.map tmD)]
def AOk (a : Atom) : Prop := ∀ t ∈ a.2, TOk t
abbrev Sch := List (Str × List Col)
def tbD (cs : List Col) : D := .dict [(.str (Str.ofString "columns"), .list (cs.map colD)), (.str (Str.ofString "checks"), .list []), (.str (Str.ofString "uniques"), .list []), (.str (Str.ofString "references"), .list [])]
def scD (s : Sch) : D := .dict (s.map fun p => (.str p.1, tbD p.2))
structure Qn where
  head : List Str
  atoms : List Atom
def qD (q : Qn) : D := .tuple [.tuple (q.head.map .str), .tuple (q.atoms.map atD)]
theorem is_ne_var : (Str.ofString "is" == Str.ofString "var") = false := by decide +kernel
theorem var_ne_is : (Str.ofString "var" == Str.ofString "is") = false := by decide +kernel
theorem int_ne_text : (Str.ofString "int" == Str.ofString "text") = false := by decide +kernel
theorem text_ne_int : (Str.ofString "text" == Str.ofString "int") = false := by decide +kernel
theorem kindS_int (b : Bool) : (kindS b == Str.ofString "int") = b := by cases b <;> decide +kernel
theorem kindS_eq (a b : Bool) : (kindS a == kindS b) = (a == b) := by cases a <;> cases b <;> decide +kernel
theorem len_str {x : Str} (h : x.length ≤ 1000) : lenD [.str x] = some (.int x.length) := by
  show (if x.length ≤ sizeLine then some (PyData.int x.length) else none) = _
  rw [if_pos (le_line h)]
theorem items_str {x : Str} (h : x.length ≤ 1000) : itemsD (.str x) = some (charL x) := by
  show (if x.length ≤ sizeLine then some (charL x) else none) = _
  rw [if_pos (le_line h)]
/-! ### the walks -/
theorem p_is_integer (d : D) : pr (r_is_integer [.sh d]) = .ok (.bool (vi_int d && !vi_bool d)) := by
  unfold r_is_integer b_is_integer
  cases d <;> simp only [pr_run, out, oR, sSeq, sIf, eP, ePk, ePkT, eFr, frzS, frz1, shE, VH.shS_sh, VH.shS_lst, VH.shS_dic, VH.shS_scr, VH.shS_none, pVar, pC, pBin, pChain, pUn, pMap, pB, pTru, pNN, pNNo, pAnd, pOr, pNot, pAndV, pOrV, pNotV, pIf, pNil, pCons, pAll, pPart, pPart0, pSl, pM1, pSeq, pSeq2, pCall_pr, pGet2, pGet3, isDic, Pr.bind, Pr.lift, eAnd, eOr, eNot, eB, bnd, eBin, eUn, eSub, eC, VH.ret, lift, eVar, eSh, eFz, sSet, sRet, sPut, sAsg, sPar, sPar3, sFz, tgN, tgT, tgSeq, eAll, eCons, eNil, eIf, sDo, sApp, sExt, sNext, oLst, oAdd, oIf, oList, oDic0, eMov, eSl, ePart, eCallU, aNil, aVal, aBor, takeA, putA, sRaise, List.getElem?_cons_zero, List.getElem?_cons_succ, List.set_cons_zero, List.set_cons_succ, Nat.reduceSub, Nat.reduceAdd, Nat.reduceLT, Nat.reduceLeDiff, Option.bind, Option.map, O.fzb, O.fzbK, fz, blD, VH.isN_none, VH.isN_int, VH.isN_str, VH.isN_bool, VH.isN_tup, VH.isN_lst, VH.isN_dic, vi_int, vi_bool, vi_str, vi_tuple, vi_list, vi_dict, truD, flR, flRA, List.map_cons, List.map_nil, List.replicate, List.cons_append, List.nil_append, List.length_cons, List.length_nil, if_true, if_false, ite_true, ite_false, Bool.false_eq_true, decide_true, decide_false, beq_self_eq_true, Bool.not_true, Bool.not_false, and_self, and_true, true_and, and_false, false_and, Bool.or_true, Bool.true_or, Bool.or_false, Bool.false_or, Bool.and_true, Bool.and_false, Bool.true_and, Bool.false_and, ne_eq, not_false_eq_true, not_true_eq_false, reduceCtorEq, VH.eq_str, VH.ne_str, VH.eq_int, VH.ne_int, VH.add_int, VH.le_int, VH.lt_int, VH.gt_int, VH.ge_int, VH.ixt0, VH.ixt1, VH.ixt2, VH.ixl0, VH.ixl1, VH.tup0, VH.tup1, VH.tup2, VH.tup3, VH.lst0, VH.lst1, VH.lst2, VH.lst3, VH.len_list, VH.len_tuple, VH.items_list, VH.items_tuple]
def inCh (c : Nat) : Bool := decide (c ∈ c_CHARACTERS.cps.toList)
def plainS (x : Str) : Bool := x.cps.toList.all inCh
theorem in_char (c : Nat) (z : Str) : inOp (.str ⟨#[c]⟩) (.str z) = some (.bool (decide (c ∈ z.cps.toList))) := by
  simp [inOp, inB]
theorem nin_char (c : Nat) (z : Str) : ninOp (.str ⟨#[c]⟩) (.str z) = some (.bool (!decide (c ∈ z.cps.toList))) := by
  simp [ninOp, inB]
theorem charL_map (x : Str) : charL x = x.cps.toList.map fun c => .str ⟨#[c]⟩ := rfl
/-- a loop that only looks -/
theorem foldlM_all {α : Type} {p : α → Bool} {e : Ex} : ∀ (xs : List α), (xs.foldlM (fun (_ : Unit) a => if p a = true then (.ok () : Except Ex Unit) else .error e) ()) = if xs.all p = true then .ok () else .error e
  | [] => rfl
  | a :: xs => by
    rw [List.foldlM_cons, List.all_cons]
    cases h : p a with
    | false => rfl
    | true =>
      show (xs.foldlM _ ()) = _
      rw [foldlM_all xs]
      simp
theorem p_is_plain_text {x : Str} (h : x.length ≤ 1000) : pr (r_is_plain_text [.sh (.str x)]) = .ok (.bool (plainS x)) := by
  unfold r_is_plain_text b_is_plain_text
  have hl := Got.loop (e := fun c => PyData.str ⟨#[c]⟩) (tg := tgN 1) (body := L1_is_plain_text) (β := Unit)
    (step := fun _ c => if inCh c = true then .ok () else .error (.ret (.sh (.bool false)))) (S := fun _ env => ∃ u, env = [some (.sh (.str x)), u]) (R := fun _ => True) (P := fun _ => True) (fun b c env _ ⟨u, he⟩ => by
      subst he
      refine ⟨_, rfl, ?_⟩
      cases hc : inCh c with
      | true =>
        refine ⟨[some (.sh (.str x)), some (.sh (.str ⟨#[c]⟩))], ?_, _, rfl⟩
        have : decide (c ∈ c_CHARACTERS.cps.toList) = true := hc
        simp only [pr_run, out, oR, sSeq, sIf, eP, ePk, ePkT, eFr, frzS, frz1, shE, VH.shS_sh, VH.shS_lst, VH.shS_dic, VH.shS_scr, VH.shS_none, pVar, pC, pBin, pChain, pUn, pMap, pB, pTru, pNN, pNNo, pAnd, pOr, pNot, pAndV, pOrV, pNotV, pIf, pNil, pCons, pAll, pPart, pPart0, pSl, pM1, pSeq, pSeq2, pCall_pr, pGet2, pGet3, isDic, Pr.bind, Pr.lift, eAnd, eOr, eNot, eB, bnd, eBin, eUn, eSub, eC, VH.ret, lift, eVar, eSh, eFz, sSet, sRet, sPut, sAsg, sPar, sPar3, sFz, tgN, tgT, tgSeq, eAll, eCons, eNil, eIf, sDo, sApp, sExt, sNext, oLst, oAdd, oIf, oList, oDic0, eMov, eSl, ePart, eCallU, aNil, aVal, aBor, takeA, putA, sRaise, List.getElem?_cons_zero, List.getElem?_cons_succ, List.set_cons_zero, List.set_cons_succ, Nat.reduceSub, Nat.reduceAdd, Nat.reduceLT, Nat.reduceLeDiff, Option.bind, Option.map, O.fzb, O.fzbK, fz, blD, VH.isN_none, VH.isN_int, VH.isN_str, VH.isN_bool, VH.isN_tup, VH.isN_lst, VH.isN_dic, vi_int, vi_bool, vi_str, vi_tuple, vi_list, vi_dict, truD, flR, flRA, List.map_cons, List.map_nil, List.replicate, List.cons_append, List.nil_append, List.length_cons, List.length_nil, if_true, if_false, ite_true, ite_false, Bool.false_eq_true, decide_true, decide_false, beq_self_eq_true, Bool.not_true, Bool.not_false, and_self, and_true, true_and, and_false, false_and, Bool.or_true, Bool.true_or, Bool.or_false, Bool.false_or, Bool.and_true, Bool.and_false, Bool.true_and, Bool.false_and, ne_eq, not_false_eq_true, not_true_eq_false, reduceCtorEq, VH.eq_str, VH.ne_str, VH.eq_int, VH.ne_int, VH.add_int, VH.le_int, VH.lt_int, VH.gt_int, VH.ge_int, VH.ixt0, VH.ixt1, VH.ixt2, VH.ixl0, VH.ixl1, VH.tup0, VH.tup1, VH.tup2, VH.tup3, VH.lst0, VH.lst1, VH.lst2, VH.lst3, VH.len_list, VH.len_tuple, VH.items_list, VH.items_tuple, L1_is_plain_text, nin_char, this]
      | false =>
        refine ⟨[some (.sh (.str x)), some (.sh (.str ⟨#[c]⟩))], ?_, trivial⟩
        have : decide (c ∈ c_CHARACTERS.cps.toList) = false := hc
        simp only [pr_run, out, oR, sSeq, sIf, eP, ePk, ePkT, eFr, frzS, frz1, shE, VH.shS_sh, VH.shS_lst, VH.shS_dic, VH.shS_scr, VH.shS_none, pVar, pC, pBin, pChain, pUn, pMap, pB, pTru, pNN, pNNo, pAnd, pOr, pNot, pAndV, pOrV, pNotV, pIf, pNil, pCons, pAll, pPart, pPart0, pSl, pM1, pSeq, pSeq2, pCall_pr, pGet2, pGet3, isDic, Pr.bind, Pr.lift, eAnd, eOr, eNot, eB, bnd, eBin, eUn, eSub, eC, VH.ret, lift, eVar, eSh, eFz, sSet, sRet, sPut, sAsg, sPar, sPar3, sFz, tgN, tgT, tgSeq, eAll, eCons, eNil, eIf, sDo, sApp, sExt, sNext, oLst, oAdd, oIf, oList, oDic0, eMov, eSl, ePart, eCallU, aNil, aVal, aBor, takeA, putA, sRaise, List.getElem?_cons_zero, List.getElem?_cons_succ, List.set_cons_zero, List.set_cons_succ, Nat.reduceSub, Nat.reduceAdd, Nat.reduceLT, Nat.reduceLeDiff, Option.bind, Option.map, O.fzb, O.fzbK, fz, blD, VH.isN_none, VH.isN_int, VH.isN_str, VH.isN_bool, VH.isN_tup, VH.isN_lst, VH.isN_dic, vi_int, vi_bool, vi_str, vi_tuple, vi_list, vi_dict, truD, flR, flRA, List.map_cons, List.map_nil, List.replicate, List.cons_append, List.nil_append, List.length_cons, List.length_nil, if_true, if_false, ite_true, ite_false, Bool.false_eq_true, decide_true, decide_false, beq_self_eq_true, Bool.not_true, Bool.not_false, and_self, and_true, true_and, and_false, false_and, Bool.or_true, Bool.true_or, Bool.or_false, Bool.false_or, Bool.and_true, Bool.and_false, Bool.true_and, Bool.false_and, ne_eq, not_false_eq_true, not_true_eq_false, reduceCtorEq, VH.eq_str, VH.ne_str, VH.eq_int, VH.ne_int, VH.add_int, VH.le_int, VH.lt_int, VH.gt_int, VH.ge_int, VH.ixt0, VH.ixt1, VH.ixt2, VH.ixl0, VH.ixl1, VH.tup0, VH.tup1, VH.tup2, VH.tup3, VH.lst0, VH.lst1, VH.lst2, VH.lst3, VH.len_list, VH.len_tuple, VH.items_list, VH.items_tuple, L1_is_plain_text, nin_char, this]) x.cps.toList () [some (.sh (.str x)), none] (fun _ _ => trivial) ⟨none, rfl⟩
  rw [foldlM_all] at hl
  have hf : sFor (eP (pSeq itemsD (pVar 0))) (tgN 1) L1_is_plain_text [some (.sh (.str x)), none] = loopS (tgN 1) L1_is_plain_text (charL x) [some (.sh (.str x)), none] :=
    for_eq (by simp only [pr_run, out, oR, sSeq, sIf, eP, ePk, ePkT, eFr, frzS, frz1, shE, VH.shS_sh, VH.shS_lst, VH.shS_dic, VH.shS_scr, VH.shS_none, pVar, pC, pBin, pChain, pUn, pMap, pB, pTru, pNN, pNNo, pAnd, pOr, pNot, pAndV, pOrV, pNotV, pIf, pNil, pCons, pAll, pPart, pPart0, pSl, pM1, pSeq, pSeq2, pCall_pr, pGet2, pGet3, isDic, Pr.bind, Pr.lift, eAnd, eOr, eNot, eB, bnd, eBin, eUn, eSub, eC, VH.ret, lift, eVar, eSh, eFz, sSet, sRet, sPut, sAsg, sPar, sPar3, sFz, tgN, tgT, tgSeq, eAll, eCons, eNil, eIf, sDo, sApp, sExt, sNext, oLst, oAdd, oIf, oList, oDic0, eMov, eSl, ePart, eCallU, aNil, aVal, aBor, takeA, putA, sRaise, List.getElem?_cons_zero, List.getElem?_cons_succ, List.set_cons_zero, List.set_cons_succ, Nat.reduceSub, Nat.reduceAdd, Nat.reduceLT, Nat.reduceLeDiff, Option.bind, Option.map, O.fzb, O.fzbK, fz, blD, VH.isN_none, VH.isN_int, VH.isN_str, VH.isN_bool, VH.isN_tup, VH.isN_lst, VH.isN_dic, vi_int, vi_bool, vi_str, vi_tuple, vi_list, vi_dict, truD, flR, flRA, List.map_cons, List.map_nil, List.replicate, List.cons_append, List.nil_append, List.length_cons, List.length_nil, if_true, if_false, ite_true, ite_false, Bool.false_eq_true, decide_true, decide_false, beq_self_eq_true, Bool.not_true, Bool.not_false, and_self, and_true, true_and, and_false, false_and, Bool.or_true, Bool.true_or, Bool.or_false, Bool.false_or, Bool.and_true, Bool.and_false, Bool.true_and, Bool.false_and, ne_eq, not_false_eq_true, not_true_eq_false, reduceCtorEq, VH.eq_str, VH.ne_str, VH.eq_int, VH.ne_int, VH.add_int, VH.le_int, VH.lt_int, VH.gt_int, VH.ge_int, VH.ixt0, VH.ixt1, VH.ixt2, VH.ixl0, VH.ixl1, VH.tup0, VH.tup1, VH.tup2, VH.tup3, VH.lst0, VH.lst1, VH.lst2, VH.lst3, VH.len_list, VH.len_tuple, VH.items_list, VH.items_tuple, items_str h])
  rw [charL_map] at hf
  unfold plainS
  cases hc : x.cps.toList.all inCh with
  | true =>
    rw [hc] at hl
    obtain ⟨e, h1, u, rfl⟩ := hl
    rw [h1] at hf
    simp only [pr_run, out, oR, sSeq, sIf, eP, ePk, ePkT, eFr, frzS, frz1, shE, VH.shS_sh, VH.shS_lst, VH.shS_dic, VH.shS_scr, VH.shS_none, pVar, pC, pBin, pChain, pUn, pMap, pB, pTru, pNN, pNNo, pAnd, pOr, pNot, pAndV, pOrV, pNotV, pIf, pNil, pCons, pAll, pPart, pPart0, pSl, pM1, pSeq, pSeq2, pCall_pr, pGet2, pGet3, isDic, Pr.bind, Pr.lift, eAnd, eOr, eNot, eB, bnd, eBin, eUn, eSub, eC, VH.ret, lift, eVar, eSh, eFz, sSet, sRet, sPut, sAsg, sPar, sPar3, sFz, tgN, tgT, tgSeq, eAll, eCons, eNil, eIf, sDo, sApp, sExt, sNext, oLst, oAdd, oIf, oList, oDic0, eMov, eSl, ePart, eCallU, aNil, aVal, aBor, takeA, putA, sRaise, List.getElem?_cons_zero, List.getElem?_cons_succ, List.set_cons_zero, List.set_cons_succ, Nat.reduceSub, Nat.reduceAdd, Nat.reduceLT, Nat.reduceLeDiff, Option.bind, Option.map, O.fzb, O.fzbK, fz, blD, VH.isN_none, VH.isN_int, VH.isN_str, VH.isN_bool, VH.isN_tup, VH.isN_lst, VH.isN_dic, vi_int, vi_bool, vi_str, vi_tuple, vi_list, vi_dict, truD, flR, flRA, List.map_cons, List.map_nil, List.replicate, List.cons_append, List.nil_append, List.length_cons, List.length_nil, if_true, if_false, ite_true, ite_false, Bool.false_eq_true, decide_true, decide_false, beq_self_eq_true, Bool.not_true, Bool.not_false, and_self, and_true, true_and, and_false, false_and, Bool.or_true, Bool.true_or, Bool.or_false, Bool.false_or, Bool.and_true, Bool.and_false, Bool.true_and, Bool.false_and, ne_eq, not_false_eq_true, not_true_eq_false, reduceCtorEq, VH.eq_str, VH.ne_str, VH.eq_int, VH.ne_int, VH.add_int, VH.le_int, VH.lt_int, VH.gt_int, VH.ge_int, VH.ixt0, VH.ixt1, VH.ixt2, VH.ixl0, VH.ixl1, VH.tup0, VH.tup1, VH.tup2, VH.tup3, VH.lst0, VH.lst1, VH.lst2, VH.lst3, VH.len_list, VH.len_tuple, VH.items_list, VH.items_tuple, hf]
  | false =>
    rw [hc] at hl
    obtain ⟨e, h1, _⟩ := hl
    rw [h1] at hf
    simp only [pr_run, out, oR, sSeq, sIf, eP, ePk, ePkT, eFr, frzS, frz1, shE, VH.shS_sh, VH.shS_lst, VH.shS_dic, VH.shS_scr, VH.shS_none, pVar, pC, pBin, pChain, pUn, pMap, pB, pTru, pNN, pNNo, pAnd, pOr, pNot, pAndV, pOrV, pNotV, pIf, pNil, pCons, pAll, pPart, pPart0, pSl, pM1, pSeq, pSeq2, pCall_pr, pGet2, pGet3, isDic, Pr.bind, Pr.lift, eAnd, eOr, eNot, eB, bnd, eBin, eUn, eSub, eC, VH.ret, lift, eVar, eSh, eFz, sSet, sRet, sPut, sAsg, sPar, sPar3, sFz, tgN, tgT, tgSeq, eAll, eCons, eNil, eIf, sDo, sApp, sExt, sNext, oLst, oAdd, oIf, oList, oDic0, eMov, eSl, ePart, eCallU, aNil, aVal, aBor, takeA, putA, sRaise, List.getElem?_cons_zero, List.getElem?_cons_succ, List.set_cons_zero, List.set_cons_succ, Nat.reduceSub, Nat.reduceAdd, Nat.reduceLT, Nat.reduceLeDiff, Option.bind, Option.map, O.fzb, O.fzbK, fz, blD, VH.isN_none, VH.isN_int, VH.isN_str, VH.isN_bool, VH.isN_tup, VH.isN_lst, VH.isN_dic, vi_int, vi_bool, vi_str, vi_tuple, vi_list, vi_dict, truD, flR, flRA, List.map_cons, List.map_nil, List.replicate, List.cons_append, List.nil_append, List.length_cons, List.length_nil, if_true, if_false, ite_true, ite_false, Bool.false_eq_true, decide_true, decide_false, beq_self_eq_true, Bool.not_true, Bool.not_false, and_self, and_true, true_and, and_false, false_and, Bool.or_true, Bool.true_or, Bool.or_false, Bool.false_or, Bool.and_true, Bool.and_false, Bool.true_and, Bool.false_and, ne_eq, not_false_eq_true, not_true_eq_false, reduceCtorEq, VH.eq_str, VH.ne_str, VH.eq_int, VH.ne_int, VH.add_int, VH.le_int, VH.lt_int, VH.gt_int, VH.ge_int, VH.ixt0, VH.ixt1, VH.ixt2, VH.ixl0, VH.ixl1, VH.tup0, VH.tup1, VH.tup2, VH.tup3, VH.lst0, VH.lst1, VH.lst2, VH.lst3, VH.len_list, VH.len_tuple, VH.items_list, VH.items_tuple, hf]
end VC
set_option Elab.async false
set_option linter.all false
set_option maxRecDepth 100000
set_option maxHeartbeats 4000000
namespace VC
open PySem PySem.Spec PyProof.Rows L2 VH
def isValue : Val → Bool
  | none => true
  | some (.inl i) => decide (-999999999 ≤ i) && decide (i ≤ 999999999)
  | some (.inr x) => plainS x && decide (x.length ≤ 30)
theorem p_is_value {v : Val} (h : VOk v) : pr (r_is_value [.sh (vD v)]) = .ok (.bool (isValue v)) := by
  unfold r_is_value b_is_value
  cases v with
  | none => simp only [pr_run, out, oR, sSeq, sIf, eP, ePk, ePkT, eFr, frzS, frz1, shE, VH.shS_sh, VH.shS_lst, VH.shS_dic, VH.shS_scr, VH.shS_none, pVar, pC, pBin, pChain, pUn, pMap, pB, pTru, pNN, pNNo, pAnd, pOr, pNot, pAndV, pOrV, pNotV, pIf, pNil, pCons, pAll, pPart, pPart0, pSl, pM1, pSeq, pSeq2, pCall_pr, pGet2, pGet3, isDic, Pr.bind, Pr.lift, eAnd, eOr, eNot, eB, bnd, eBin, eUn, eSub, eC, VH.ret, lift, eVar, eSh, eFz, sSet, sRet, sPut, sAsg, sPar, sPar3, sFz, tgN, tgT, tgSeq, eAll, eCons, eNil, eIf, sDo, sApp, sExt, sNext, oLst, oAdd, oIf, oList, oDic0, eMov, eSl, ePart, eCallU, aNil, aVal, aBor, takeA, putA, sRaise, List.getElem?_cons_zero, List.getElem?_cons_succ, List.set_cons_zero, List.set_cons_succ, Nat.reduceSub, Nat.reduceAdd, Nat.reduceLT, Nat.reduceLeDiff, Option.bind, Option.map, O.fzb, O.fzbK, fz, blD, VH.isN_none, VH.isN_int, VH.isN_str, VH.isN_bool, VH.isN_tup, VH.isN_lst, VH.isN_dic, vi_int, vi_bool, vi_str, vi_tuple, vi_list, vi_dict, truD, flR, flRA, List.map_cons, List.map_nil, List.replicate, List.cons_append, List.nil_append, List.length_cons, List.length_nil, if_true, if_false, ite_true, ite_false, Bool.false_eq_true, decide_true, decide_false, beq_self_eq_true, Bool.not_true, Bool.not_false, and_self, and_true, true_and, and_false, false_and, Bool.or_true, Bool.true_or, Bool.or_false, Bool.false_or, Bool.and_true, Bool.and_false, Bool.true_and, Bool.false_and, ne_eq, not_false_eq_true, not_true_eq_false, reduceCtorEq, VH.eq_str, VH.ne_str, VH.eq_int, VH.ne_int, VH.add_int, VH.le_int, VH.lt_int, VH.gt_int, VH.ge_int, VH.ixt0, VH.ixt1, VH.ixt2, VH.ixl0, VH.ixl1, VH.tup0, VH.tup1, VH.tup2, VH.tup3, VH.lst0, VH.lst1, VH.lst2, VH.lst3, VH.len_list, VH.len_tuple, VH.items_list, VH.items_tuple, vD, isValue]
  | some k =>
    cases k with
    | inl i =>
      have e := p_is_integer (.int i)
      simp only [pr_run, out, oR, sSeq, sIf, eP, ePk, ePkT, eFr, frzS, frz1, shE, VH.shS_sh, VH.shS_lst, VH.shS_dic, VH.shS_scr, VH.shS_none, pVar, pC, pBin, pChain, pUn, pMap, pB, pTru, pNN, pNNo, pAnd, pOr, pNot, pAndV, pOrV, pNotV, pIf, pNil, pCons, pAll, pPart, pPart0, pSl, pM1, pSeq, pSeq2, pCall_pr, pGet2, pGet3, isDic, Pr.bind, Pr.lift, eAnd, eOr, eNot, eB, bnd, eBin, eUn, eSub, eC, VH.ret, lift, eVar, eSh, eFz, sSet, sRet, sPut, sAsg, sPar, sPar3, sFz, tgN, tgT, tgSeq, eAll, eCons, eNil, eIf, sDo, sApp, sExt, sNext, oLst, oAdd, oIf, oList, oDic0, eMov, eSl, ePart, eCallU, aNil, aVal, aBor, takeA, putA, sRaise, List.getElem?_cons_zero, List.getElem?_cons_succ, List.set_cons_zero, List.set_cons_succ, Nat.reduceSub, Nat.reduceAdd, Nat.reduceLT, Nat.reduceLeDiff, Option.bind, Option.map, O.fzb, O.fzbK, fz, blD, VH.isN_none, VH.isN_int, VH.isN_str, VH.isN_bool, VH.isN_tup, VH.isN_lst, VH.isN_dic, vi_int, vi_bool, vi_str, vi_tuple, vi_list, vi_dict, truD, flR, flRA, List.map_cons, List.map_nil, List.replicate, List.cons_append, List.nil_append, List.length_cons, List.length_nil, if_true, if_false, ite_true, ite_false, Bool.false_eq_true, decide_true, decide_false, beq_self_eq_true, Bool.not_true, Bool.not_false, and_self, and_true, true_and, and_false, false_and, Bool.or_true, Bool.true_or, Bool.or_false, Bool.false_or, Bool.and_true, Bool.and_false, Bool.true_and, Bool.false_and, ne_eq, not_false_eq_true, not_true_eq_false, reduceCtorEq, VH.eq_str, VH.ne_str, VH.eq_int, VH.ne_int, VH.add_int, VH.le_int, VH.lt_int, VH.gt_int, VH.ge_int, VH.ixt0, VH.ixt1, VH.ixt2, VH.ixl0, VH.ixl1, VH.tup0, VH.tup1, VH.tup2, VH.tup3, VH.lst0, VH.lst1, VH.lst2, VH.lst3, VH.len_list, VH.len_tuple, VH.items_list, VH.items_tuple, vD, kD, isValue, e]
      by_cases c : -999999999 ≤ i
      · simp only [pr_run, out, oR, sSeq, sIf, eP, ePk, ePkT, eFr, frzS, frz1, shE, VH.shS_sh, VH.shS_lst, VH.shS_dic, VH.shS_scr, VH.shS_none, pVar, pC, pBin, pChain, pUn, pMap, pB, pTru, pNN, pNNo, pAnd, pOr, pNot, pAndV, pOrV, pNotV, pIf, pNil, pCons, pAll, pPart, pPart0, pSl, pM1, pSeq, pSeq2, pCall_pr, pGet2, pGet3, isDic, Pr.bind, Pr.lift, eAnd, eOr, eNot, eB, bnd, eBin, eUn, eSub, eC, VH.ret, lift, eVar, eSh, eFz, sSet, sRet, sPut, sAsg, sPar, sPar3, sFz, tgN, tgT, tgSeq, eAll, eCons, eNil, eIf, sDo, sApp, sExt, sNext, oLst, oAdd, oIf, oList, oDic0, eMov, eSl, ePart, eCallU, aNil, aVal, aBor, takeA, putA, sRaise, List.getElem?_cons_zero, List.getElem?_cons_succ, List.set_cons_zero, List.set_cons_succ, Nat.reduceSub, Nat.reduceAdd, Nat.reduceLT, Nat.reduceLeDiff, Option.bind, Option.map, O.fzb, O.fzbK, fz, blD, VH.isN_none, VH.isN_int, VH.isN_str, VH.isN_bool, VH.isN_tup, VH.isN_lst, VH.isN_dic, vi_int, vi_bool, vi_str, vi_tuple, vi_list, vi_dict, truD, flR, flRA, List.map_cons, List.map_nil, List.replicate, List.cons_append, List.nil_append, List.length_cons, List.length_nil, if_true, if_false, ite_true, ite_false, Bool.false_eq_true, decide_true, decide_false, beq_self_eq_true, Bool.not_true, Bool.not_false, and_self, and_true, true_and, and_false, false_and, Bool.or_true, Bool.true_or, Bool.or_false, Bool.false_or, Bool.and_true, Bool.and_false, Bool.true_and, Bool.false_and, ne_eq, not_false_eq_true, not_true_eq_false, reduceCtorEq, VH.eq_str, VH.ne_str, VH.eq_int, VH.ne_int, VH.add_int, VH.le_int, VH.lt_int, VH.gt_int, VH.ge_int, VH.ixt0, VH.ixt1, VH.ixt2, VH.ixl0, VH.ixl1, VH.tup0, VH.tup1, VH.tup2, VH.tup3, VH.lst0, VH.lst1, VH.lst2, VH.lst3, VH.len_list, VH.len_tuple, VH.items_list, VH.items_tuple, c]
      · simp only [pr_run, out, oR, sSeq, sIf, eP, ePk, ePkT, eFr, frzS, frz1, shE, VH.shS_sh, VH.shS_lst, VH.shS_dic, VH.shS_scr, VH.shS_none, pVar, pC, pBin, pChain, pUn, pMap, pB, pTru, pNN, pNNo, pAnd, pOr, pNot, pAndV, pOrV, pNotV, pIf, pNil, pCons, pAll, pPart, pPart0, pSl, pM1, pSeq, pSeq2, pCall_pr, pGet2, pGet3, isDic, Pr.bind, Pr.lift, eAnd, eOr, eNot, eB, bnd, eBin, eUn, eSub, eC, VH.ret, lift, eVar, eSh, eFz, sSet, sRet, sPut, sAsg, sPar, sPar3, sFz, tgN, tgT, tgSeq, eAll, eCons, eNil, eIf, sDo, sApp, sExt, sNext, oLst, oAdd, oIf, oList, oDic0, eMov, eSl, ePart, eCallU, aNil, aVal, aBor, takeA, putA, sRaise, List.getElem?_cons_zero, List.getElem?_cons_succ, List.set_cons_zero, List.set_cons_succ, Nat.reduceSub, Nat.reduceAdd, Nat.reduceLT, Nat.reduceLeDiff, Option.bind, Option.map, O.fzb, O.fzbK, fz, blD, VH.isN_none, VH.isN_int, VH.isN_str, VH.isN_bool, VH.isN_tup, VH.isN_lst, VH.isN_dic, vi_int, vi_bool, vi_str, vi_tuple, vi_list, vi_dict, truD, flR, flRA, List.map_cons, List.map_nil, List.replicate, List.cons_append, List.nil_append, List.length_cons, List.length_nil, if_true, if_false, ite_true, ite_false, Bool.false_eq_true, decide_true, decide_false, beq_self_eq_true, Bool.not_true, Bool.not_false, and_self, and_true, true_and, and_false, false_and, Bool.or_true, Bool.true_or, Bool.or_false, Bool.false_or, Bool.and_true, Bool.and_false, Bool.true_and, Bool.false_and, ne_eq, not_false_eq_true, not_true_eq_false, reduceCtorEq, VH.eq_str, VH.ne_str, VH.eq_int, VH.ne_int, VH.add_int, VH.le_int, VH.lt_int, VH.gt_int, VH.ge_int, VH.ixt0, VH.ixt1, VH.ixt2, VH.ixl0, VH.ixl1, VH.tup0, VH.tup1, VH.tup2, VH.tup3, VH.lst0, VH.lst1, VH.lst2, VH.lst3, VH.len_list, VH.len_tuple, VH.items_list, VH.items_tuple, c]
    | inr x =>
      have e := p_is_integer (.str x)
      have e2 := p_is_plain_text (x := x) h
      have e3 := len_str (x := x) h
      simp only [pr_run, out, oR, sSeq, sIf, eP, ePk, ePkT, eFr, frzS, frz1, shE, VH.shS_sh, VH.shS_lst, VH.shS_dic, VH.shS_scr, VH.shS_none, pVar, pC, pBin, pChain, pUn, pMap, pB, pTru, pNN, pNNo, pAnd, pOr, pNot, pAndV, pOrV, pNotV, pIf, pNil, pCons, pAll, pPart, pPart0, pSl, pM1, pSeq, pSeq2, pCall_pr, pGet2, pGet3, isDic, Pr.bind, Pr.lift, eAnd, eOr, eNot, eB, bnd, eBin, eUn, eSub, eC, VH.ret, lift, eVar, eSh, eFz, sSet, sRet, sPut, sAsg, sPar, sPar3, sFz, tgN, tgT, tgSeq, eAll, eCons, eNil, eIf, sDo, sApp, sExt, sNext, oLst, oAdd, oIf, oList, oDic0, eMov, eSl, ePart, eCallU, aNil, aVal, aBor, takeA, putA, sRaise, List.getElem?_cons_zero, List.getElem?_cons_succ, List.set_cons_zero, List.set_cons_succ, Nat.reduceSub, Nat.reduceAdd, Nat.reduceLT, Nat.reduceLeDiff, Option.bind, Option.map, O.fzb, O.fzbK, fz, blD, VH.isN_none, VH.isN_int, VH.isN_str, VH.isN_bool, VH.isN_tup, VH.isN_lst, VH.isN_dic, vi_int, vi_bool, vi_str, vi_tuple, vi_list, vi_dict, truD, flR, flRA, List.map_cons, List.map_nil, List.replicate, List.cons_append, List.nil_append, List.length_cons, List.length_nil, if_true, if_false, ite_true, ite_false, Bool.false_eq_true, decide_true, decide_false, beq_self_eq_true, Bool.not_true, Bool.not_false, and_self, and_true, true_and, and_false, false_and, Bool.or_true, Bool.true_or, Bool.or_false, Bool.false_or, Bool.and_true, Bool.and_false, Bool.true_and, Bool.false_and, ne_eq, not_false_eq_true, not_true_eq_false, reduceCtorEq, VH.eq_str, VH.ne_str, VH.eq_int, VH.ne_int, VH.add_int, VH.le_int, VH.lt_int, VH.gt_int, VH.ge_int, VH.ixt0, VH.ixt1, VH.ixt2, VH.ixl0, VH.ixl1, VH.tup0, VH.tup1, VH.tup2, VH.tup3, VH.lst0, VH.lst1, VH.lst2, VH.lst3, VH.len_list, VH.len_tuple, VH.items_list, VH.items_tuple, vD, kD, isValue, e, e2, e3]
      cases plainS x <;> simp only [pr_run, out, oR, sSeq, sIf, eP, ePk, ePkT, eFr, frzS, frz1, shE, VH.shS_sh, VH.shS_lst, VH.shS_dic, VH.shS_scr, VH.shS_none, pVar, pC, pBin, pChain, pUn, pMap, pB, pTru, pNN, pNNo, pAnd, pOr, pNot, pAndV, pOrV, pNotV, pIf, pNil, pCons, pAll, pPart, pPart0, pSl, pM1, pSeq, pSeq2, pCall_pr, pGet2, pGet3, isDic, Pr.bind, Pr.lift, eAnd, eOr, eNot, eB, bnd, eBin, eUn, eSub, eC, VH.ret, lift, eVar, eSh, eFz, sSet, sRet, sPut, sAsg, sPar, sPar3, sFz, tgN, tgT, tgSeq, eAll, eCons, eNil, eIf, sDo, sApp, sExt, sNext, oLst, oAdd, oIf, oList, oDic0, eMov, eSl, ePart, eCallU, aNil, aVal, aBor, takeA, putA, sRaise, List.getElem?_cons_zero, List.getElem?_cons_succ, List.set_cons_zero, List.set_cons_succ, Nat.reduceSub, Nat.reduceAdd, Nat.reduceLT, Nat.reduceLeDiff, Option.bind, Option.map, O.fzb, O.fzbK, fz, blD, VH.isN_none, VH.isN_int, VH.isN_str, VH.isN_bool, VH.isN_tup, VH.isN_lst, VH.isN_dic, vi_int, vi_bool, vi_str, vi_tuple, vi_list, vi_dict, truD, flR, flRA, List.map_cons, List.map_nil, List.replicate, List.cons_append, List.nil_append, List.length_cons, List.length_nil, if_true, if_false, ite_true, ite_false, Bool.false_eq_true, decide_true, decide_false, beq_self_eq_true, Bool.not_true, Bool.not_false, and_self, and_true, true_and, and_false, false_and, Bool.or_true, Bool.true_or, Bool.or_false, Bool.false_or, Bool.and_true, Bool.and_false, Bool.true_and, Bool.false_and, ne_eq, not_false_eq_true, not_true_eq_false, reduceCtorEq, VH.eq_str, VH.ne_str, VH.eq_int, VH.ne_int, VH.add_int, VH.le_int, VH.lt_int, VH.gt_int, VH.ge_int, VH.ixt0, VH.ixt1, VH.ixt2, VH.ixl0, VH.ixl1, VH.tup0, VH.tup1, VH.tup2, VH.tup3, VH.lst0, VH.lst1, VH.lst2, VH.lst3, VH.len_list, VH.len_tuple, VH.items_list, VH.items_tuple]
      have : decide ((x.length : Int) ≤ 30) = decide (x.length ≤ 30) := by
        apply decide_eq_decide.mpr; omega
      rw [this]
def kindV : Val → Str
  | none => Str.ofString ""
  | some (.inl _) => Str.ofString "int"
  | some (.inr _) => Str.ofString "text"
theorem p_kind_of (v : Val) : pr (r_kind_of [.sh (vD v)]) = .ok (.str (kindV v)) := by
  unfold r_kind_of b_kind_of
  cases v with
  | none => simp only [pr_run, out, oR, sSeq, sIf, eP, ePk, ePkT, eFr, frzS, frz1, shE, VH.shS_sh, VH.shS_lst, VH.shS_dic, VH.shS_scr, VH.shS_none, pVar, pC, pBin, pChain, pUn, pMap, pB, pTru, pNN, pNNo, pAnd, pOr, pNot, pAndV, pOrV, pNotV, pIf, pNil, pCons, pAll, pPart, pPart0, pSl, pM1, pSeq, pSeq2, pCall_pr, pGet2, pGet3, isDic, Pr.bind, Pr.lift, eAnd, eOr, eNot, eB, bnd, eBin, eUn, eSub, eC, VH.ret, lift, eVar, eSh, eFz, sSet, sRet, sPut, sAsg, sPar, sPar3, sFz, tgN, tgT, tgSeq, eAll, eCons, eNil, eIf, sDo, sApp, sExt, sNext, oLst, oAdd, oIf, oList, oDic0, eMov, eSl, ePart, eCallU, aNil, aVal, aBor, takeA, putA, sRaise, List.getElem?_cons_zero, List.getElem?_cons_succ, List.set_cons_zero, List.set_cons_succ, Nat.reduceSub, Nat.reduceAdd, Nat.reduceLT, Nat.reduceLeDiff, Option.bind, Option.map, O.fzb, O.fzbK, fz, blD, VH.isN_none, VH.isN_int, VH.isN_str, VH.isN_bool, VH.isN_tup, VH.isN_lst, VH.isN_dic, vi_int, vi_bool, vi_str, vi_tuple, vi_list, vi_dict, truD, flR, flRA, List.map_cons, List.map_nil, List.replicate, List.cons_append, List.nil_append, List.length_cons, List.length_nil, if_true, if_false, ite_true, ite_false, Bool.false_eq_true, decide_true, decide_false, beq_self_eq_true, Bool.not_true, Bool.not_false, and_self, and_true, true_and, and_false, false_and, Bool.or_true, Bool.true_or, Bool.or_false, Bool.false_or, Bool.and_true, Bool.and_false, Bool.true_and, Bool.false_and, ne_eq, not_false_eq_true, not_true_eq_false, reduceCtorEq, VH.eq_str, VH.ne_str, VH.eq_int, VH.ne_int, VH.add_int, VH.le_int, VH.lt_int, VH.gt_int, VH.ge_int, VH.ixt0, VH.ixt1, VH.ixt2, VH.ixl0, VH.ixl1, VH.tup0, VH.tup1, VH.tup2, VH.tup3, VH.lst0, VH.lst1, VH.lst2, VH.lst3, VH.len_list, VH.len_tuple, VH.items_list, VH.items_tuple, vD, kindV]
  | some k => cases k <;> simp only [pr_run, out, oR, sSeq, sIf, eP, ePk, ePkT, eFr, frzS, frz1, shE, VH.shS_sh, VH.shS_lst, VH.shS_dic, VH.shS_scr, VH.shS_none, pVar, pC, pBin, pChain, pUn, pMap, pB, pTru, pNN, pNNo, pAnd, pOr, pNot, pAndV, pOrV, pNotV, pIf, pNil, pCons, pAll, pPart, pPart0, pSl, pM1, pSeq, pSeq2, pCall_pr, pGet2, pGet3, isDic, Pr.bind, Pr.lift, eAnd, eOr, eNot, eB, bnd, eBin, eUn, eSub, eC, VH.ret, lift, eVar, eSh, eFz, sSet, sRet, sPut, sAsg, sPar, sPar3, sFz, tgN, tgT, tgSeq, eAll, eCons, eNil, eIf, sDo, sApp, sExt, sNext, oLst, oAdd, oIf, oList, oDic0, eMov, eSl, ePart, eCallU, aNil, aVal, aBor, takeA, putA, sRaise, List.getElem?_cons_zero, List.getElem?_cons_succ, List.set_cons_zero, List.set_cons_succ, Nat.reduceSub, Nat.reduceAdd, Nat.reduceLT, Nat.reduceLeDiff, Option.bind, Option.map, O.fzb, O.fzbK, fz, blD, VH.isN_none, VH.isN_int, VH.isN_str, VH.isN_bool, VH.isN_tup, VH.isN_lst, VH.isN_dic, vi_int, vi_bool, vi_str, vi_tuple, vi_list, vi_dict, truD, flR, flRA, List.map_cons, List.map_nil, List.replicate, List.cons_append, List.nil_append, List.length_cons, List.length_nil, if_true, if_false, ite_true, ite_false, Bool.false_eq_true, decide_true, decide_false, beq_self_eq_true, Bool.not_true, Bool.not_false, and_self, and_true, true_and, and_false, false_and, Bool.or_true, Bool.true_or, Bool.or_false, Bool.false_or, Bool.and_true, Bool.and_false, Bool.true_and, Bool.false_and, ne_eq, not_false_eq_true, not_true_eq_false, reduceCtorEq, VH.eq_str, VH.ne_str, VH.eq_int, VH.ne_int, VH.add_int, VH.le_int, VH.lt_int, VH.gt_int, VH.ge_int, VH.ixt0, VH.ixt1, VH.ixt2, VH.ixl0, VH.ixl1, VH.tup0, VH.tup1, VH.tup2, VH.tup3, VH.lst0, VH.lst1, VH.lst2, VH.lst3, VH.len_list, VH.len_tuple, VH.items_list, VH.items_tuple, vD, kD, kindV]
def intV : Val → Bool
  | some (.inl _) => true
  | _ => false
def fitsCol (v : Val) (c : Col) : Bool := match v with
  | none => c.null
  | some k => isValue (some k) && (intV (some k) == c.int)
theorem isN_kD (k : Key) : isN (kD k) = false := by cases k <;> rfl
theorem p_fits_column {v : Val} (h : VOk v) (c : Col) : pr (r_fits_column [.sh (vD v), .sh (colD c)]) = .ok (.bool (fitsCol v c)) := by
  unfold r_fits_column b_fits_column
  have e1 := p_is_value h
  have e2 := p_kind_of v
  cases v with
  | none => simp only [pr_run, out, oR, sSeq, sIf, eP, ePk, ePkT, eFr, frzS, frz1, shE, VH.shS_sh, VH.shS_lst, VH.shS_dic, VH.shS_scr, VH.shS_none, pVar, pC, pBin, pChain, pUn, pMap, pB, pTru, pNN, pNNo, pAnd, pOr, pNot, pAndV, pOrV, pNotV, pIf, pNil, pCons, pAll, pPart, pPart0, pSl, pM1, pSeq, pSeq2, pCall_pr, pGet2, pGet3, isDic, Pr.bind, Pr.lift, eAnd, eOr, eNot, eB, bnd, eBin, eUn, eSub, eC, VH.ret, lift, eVar, eSh, eFz, sSet, sRet, sPut, sAsg, sPar, sPar3, sFz, tgN, tgT, tgSeq, eAll, eCons, eNil, eIf, sDo, sApp, sExt, sNext, oLst, oAdd, oIf, oList, oDic0, eMov, eSl, ePart, eCallU, aNil, aVal, aBor, takeA, putA, sRaise, List.getElem?_cons_zero, List.getElem?_cons_succ, List.set_cons_zero, List.set_cons_succ, Nat.reduceSub, Nat.reduceAdd, Nat.reduceLT, Nat.reduceLeDiff, Option.bind, Option.map, O.fzb, O.fzbK, fz, blD, VH.isN_none, VH.isN_int, VH.isN_str, VH.isN_bool, VH.isN_tup, VH.isN_lst, VH.isN_dic, vi_int, vi_bool, vi_str, vi_tuple, vi_list, vi_dict, truD, flR, flRA, List.map_cons, List.map_nil, List.replicate, List.cons_append, List.nil_append, List.length_cons, List.length_nil, if_true, if_false, ite_true, ite_false, Bool.false_eq_true, decide_true, decide_false, beq_self_eq_true, Bool.not_true, Bool.not_false, and_self, and_true, true_and, and_false, false_and, Bool.or_true, Bool.true_or, Bool.or_false, Bool.false_or, Bool.and_true, Bool.and_false, Bool.true_and, Bool.false_and, ne_eq, not_false_eq_true, not_true_eq_false, reduceCtorEq, VH.eq_str, VH.ne_str, VH.eq_int, VH.ne_int, VH.add_int, VH.le_int, VH.lt_int, VH.gt_int, VH.ge_int, VH.ixt0, VH.ixt1, VH.ixt2, VH.ixl0, VH.ixl1, VH.tup0, VH.tup1, VH.tup2, VH.tup3, VH.lst0, VH.lst1, VH.lst2, VH.lst3, VH.len_list, VH.len_tuple, VH.items_list, VH.items_tuple, vD, colD, fitsCol]
  | some k =>
    have e0 := isN_kD k
    have e3 : (kindV (some k) == kindS c.int) = (intV (some k) == c.int) := by
      have h1 : (kindV (some k)) = kindS (intV (some k)) := by cases k <;> rfl
      rw [h1, kindS_eq]
    simp only [pr_run, out, oR, sSeq, sIf, eP, ePk, ePkT, eFr, frzS, frz1, shE, VH.shS_sh, VH.shS_lst, VH.shS_dic, VH.shS_scr, VH.shS_none, pVar, pC, pBin, pChain, pUn, pMap, pB, pTru, pNN, pNNo, pAnd, pOr, pNot, pAndV, pOrV, pNotV, pIf, pNil, pCons, pAll, pPart, pPart0, pSl, pM1, pSeq, pSeq2, pCall_pr, pGet2, pGet3, isDic, Pr.bind, Pr.lift, eAnd, eOr, eNot, eB, bnd, eBin, eUn, eSub, eC, VH.ret, lift, eVar, eSh, eFz, sSet, sRet, sPut, sAsg, sPar, sPar3, sFz, tgN, tgT, tgSeq, eAll, eCons, eNil, eIf, sDo, sApp, sExt, sNext, oLst, oAdd, oIf, oList, oDic0, eMov, eSl, ePart, eCallU, aNil, aVal, aBor, takeA, putA, sRaise, List.getElem?_cons_zero, List.getElem?_cons_succ, List.set_cons_zero, List.set_cons_succ, Nat.reduceSub, Nat.reduceAdd, Nat.reduceLT, Nat.reduceLeDiff, Option.bind, Option.map, O.fzb, O.fzbK, fz, blD, VH.isN_none, VH.isN_int, VH.isN_str, VH.isN_bool, VH.isN_tup, VH.isN_lst, VH.isN_dic, vi_int, vi_bool, vi_str, vi_tuple, vi_list, vi_dict, truD, flR, flRA, List.map_cons, List.map_nil, List.replicate, List.cons_append, List.nil_append, List.length_cons, List.length_nil, if_true, if_false, ite_true, ite_false, Bool.false_eq_true, decide_true, decide_false, beq_self_eq_true, Bool.not_true, Bool.not_false, and_self, and_true, true_and, and_false, false_and, Bool.or_true, Bool.true_or, Bool.or_false, Bool.false_or, Bool.and_true, Bool.and_false, Bool.true_and, Bool.false_and, ne_eq, not_false_eq_true, not_true_eq_false, reduceCtorEq, VH.eq_str, VH.ne_str, VH.eq_int, VH.ne_int, VH.add_int, VH.le_int, VH.lt_int, VH.gt_int, VH.ge_int, VH.ixt0, VH.ixt1, VH.ixt2, VH.ixl0, VH.ixl1, VH.tup0, VH.tup1, VH.tup2, VH.tup3, VH.lst0, VH.lst1, VH.lst2, VH.lst3, VH.len_list, VH.len_tuple, VH.items_list, VH.items_tuple, colD, fitsCol]
    unfold vD at *
    dsimp only at *
    simp only [pr_run, out, oR, sSeq, sIf, eP, ePk, ePkT, eFr, frzS, frz1, shE, VH.shS_sh, VH.shS_lst, VH.shS_dic, VH.shS_scr, VH.shS_none, pVar, pC, pBin, pChain, pUn, pMap, pB, pTru, pNN, pNNo, pAnd, pOr, pNot, pAndV, pOrV, pNotV, pIf, pNil, pCons, pAll, pPart, pPart0, pSl, pM1, pSeq, pSeq2, pCall_pr, pGet2, pGet3, isDic, Pr.bind, Pr.lift, eAnd, eOr, eNot, eB, bnd, eBin, eUn, eSub, eC, VH.ret, lift, eVar, eSh, eFz, sSet, sRet, sPut, sAsg, sPar, sPar3, sFz, tgN, tgT, tgSeq, eAll, eCons, eNil, eIf, sDo, sApp, sExt, sNext, oLst, oAdd, oIf, oList, oDic0, eMov, eSl, ePart, eCallU, aNil, aVal, aBor, takeA, putA, sRaise, List.getElem?_cons_zero, List.getElem?_cons_succ, List.set_cons_zero, List.set_cons_succ, Nat.reduceSub, Nat.reduceAdd, Nat.reduceLT, Nat.reduceLeDiff, Option.bind, Option.map, O.fzb, O.fzbK, fz, blD, VH.isN_none, VH.isN_int, VH.isN_str, VH.isN_bool, VH.isN_tup, VH.isN_lst, VH.isN_dic, vi_int, vi_bool, vi_str, vi_tuple, vi_list, vi_dict, truD, flR, flRA, List.map_cons, List.map_nil, List.replicate, List.cons_append, List.nil_append, List.length_cons, List.length_nil, if_true, if_false, ite_true, ite_false, Bool.false_eq_true, decide_true, decide_false, beq_self_eq_true, Bool.not_true, Bool.not_false, and_self, and_true, true_and, and_false, false_and, Bool.or_true, Bool.true_or, Bool.or_false, Bool.false_or, Bool.and_true, Bool.and_false, Bool.true_and, Bool.false_and, ne_eq, not_false_eq_true, not_true_eq_false, reduceCtorEq, VH.eq_str, VH.ne_str, VH.eq_int, VH.ne_int, VH.add_int, VH.le_int, VH.lt_int, VH.gt_int, VH.ge_int, VH.ixt0, VH.ixt1, VH.ixt2, VH.ixl0, VH.ixl1, VH.tup0, VH.tup1, VH.tup2, VH.tup3, VH.lst0, VH.lst1, VH.lst2, VH.lst3, VH.len_list, VH.len_tuple, VH.items_list, VH.items_tuple, e0, e1, e2, e3]
    cases isValue (some k) <;> simp only [pr_run, out, oR, sSeq, sIf, eP, ePk, ePkT, eFr, frzS, frz1, shE, VH.shS_sh, VH.shS_lst, VH.shS_dic, VH.shS_scr, VH.shS_none, pVar, pC, pBin, pChain, pUn, pMap, pB, pTru, pNN, pNNo, pAnd, pOr, pNot, pAndV, pOrV, pNotV, pIf, pNil, pCons, pAll, pPart, pPart0, pSl, pM1, pSeq, pSeq2, pCall_pr, pGet2, pGet3, isDic, Pr.bind, Pr.lift, eAnd, eOr, eNot, eB, bnd, eBin, eUn, eSub, eC, VH.ret, lift, eVar, eSh, eFz, sSet, sRet, sPut, sAsg, sPar, sPar3, sFz, tgN, tgT, tgSeq, eAll, eCons, eNil, eIf, sDo, sApp, sExt, sNext, oLst, oAdd, oIf, oList, oDic0, eMov, eSl, ePart, eCallU, aNil, aVal, aBor, takeA, putA, sRaise, List.getElem?_cons_zero, List.getElem?_cons_succ, List.set_cons_zero, List.set_cons_succ, Nat.reduceSub, Nat.reduceAdd, Nat.reduceLT, Nat.reduceLeDiff, Option.bind, Option.map, O.fzb, O.fzbK, fz, blD, VH.isN_none, VH.isN_int, VH.isN_str, VH.isN_bool, VH.isN_tup, VH.isN_lst, VH.isN_dic, vi_int, vi_bool, vi_str, vi_tuple, vi_list, vi_dict, truD, flR, flRA, List.map_cons, List.map_nil, List.replicate, List.cons_append, List.nil_append, List.length_cons, List.length_nil, if_true, if_false, ite_true, ite_false, Bool.false_eq_true, decide_true, decide_false, beq_self_eq_true, Bool.not_true, Bool.not_false, and_self, and_true, true_and, and_false, false_and, Bool.or_true, Bool.true_or, Bool.or_false, Bool.false_or, Bool.and_true, Bool.and_false, Bool.true_and, Bool.false_and, ne_eq, not_false_eq_true, not_true_eq_false, reduceCtorEq, VH.eq_str, VH.ne_str, VH.eq_int, VH.ne_int, VH.add_int, VH.le_int, VH.lt_int, VH.gt_int, VH.ge_int, VH.ixt0, VH.ixt1, VH.ixt2, VH.ixl0, VH.ixl1, VH.tup0, VH.tup1, VH.tup2, VH.tup3, VH.lst0, VH.lst1, VH.lst2, VH.lst3, VH.len_list, VH.len_tuple, VH.items_list, VH.items_tuple, e3]
def inLet (c : Nat) : Bool := decide (c ∈ c_LETTERS.cps.toList)
def varName (x : Str) : Bool := !(x == Str.ofString "") && x.cps.toList.all inLet
theorem bools_map {bs : List Bool} : boolsD (bs.map .bool) = some bs := by
  induction bs with
  | nil => rfl
  | cons b bs ih => simp [boolsD, ih]
theorem all_bools {bs : List Bool} : allD [.list (bs.map .bool)] = some (.bool (bs.all id)) := by
  simp [allD, bools_map]
theorem any_bools {bs : List Bool} : anyD [.list (bs.map .bool)] = some (.bool (bs.any id)) := by
  simp [anyD, bools_map]
theorem p_is_variable_name {x : Str} (h : x.length ≤ 1000) : pr (r_is_variable_name [.sh (.str x)]) = .ok (.bool (varName x)) := by
  unfold r_is_variable_name b_is_variable_name
  have hc : pComp (pSeq itemsD (pVar 0)) (tgN 1) [1] (fun _ => .ok true) (pBin inOp (pVar 1) (pC (.str c_LETTERS))) [some (.sh (.str x)), none] = .ok (.list ((x.cps.toList.map inLet).map .bool)) :=
    pCompL_eq (items := charL x) (by simp only [pr_run, out, oR, sSeq, sIf, eP, ePk, ePkT, eFr, frzS, frz1, shE, VH.shS_sh, VH.shS_lst, VH.shS_dic, VH.shS_scr, VH.shS_none, pVar, pC, pBin, pChain, pUn, pMap, pB, pTru, pNN, pNNo, pAnd, pOr, pNot, pAndV, pOrV, pNotV, pIf, pNil, pCons, pAll, pPart, pPart0, pSl, pM1, pSeq, pSeq2, pCall_pr, pGet2, pGet3, isDic, Pr.bind, Pr.lift, eAnd, eOr, eNot, eB, bnd, eBin, eUn, eSub, eC, VH.ret, lift, eVar, eSh, eFz, sSet, sRet, sPut, sAsg, sPar, sPar3, sFz, tgN, tgT, tgSeq, eAll, eCons, eNil, eIf, sDo, sApp, sExt, sNext, oLst, oAdd, oIf, oList, oDic0, eMov, eSl, ePart, eCallU, aNil, aVal, aBor, takeA, putA, sRaise, List.getElem?_cons_zero, List.getElem?_cons_succ, List.set_cons_zero, List.set_cons_succ, Nat.reduceSub, Nat.reduceAdd, Nat.reduceLT, Nat.reduceLeDiff, Option.bind, Option.map, O.fzb, O.fzbK, fz, blD, VH.isN_none, VH.isN_int, VH.isN_str, VH.isN_bool, VH.isN_tup, VH.isN_lst, VH.isN_dic, vi_int, vi_bool, vi_str, vi_tuple, vi_list, vi_dict, truD, flR, flRA, List.map_cons, List.map_nil, List.replicate, List.cons_append, List.nil_append, List.length_cons, List.length_nil, if_true, if_false, ite_true, ite_false, Bool.false_eq_true, decide_true, decide_false, beq_self_eq_true, Bool.not_true, Bool.not_false, and_self, and_true, true_and, and_false, false_and, Bool.or_true, Bool.true_or, Bool.or_false, Bool.false_or, Bool.and_true, Bool.and_false, Bool.true_and, Bool.false_and, ne_eq, not_false_eq_true, not_true_eq_false, reduceCtorEq, VH.eq_str, VH.ne_str, VH.eq_int, VH.ne_int, VH.add_int, VH.le_int, VH.lt_int, VH.gt_int, VH.ge_int, VH.ixt0, VH.ixt1, VH.ixt2, VH.ixl0, VH.ixl1, VH.tup0, VH.tup1, VH.tup2, VH.tup3, VH.lst0, VH.lst1, VH.lst2, VH.lst3, VH.len_list, VH.len_tuple, VH.items_list, VH.items_tuple, items_str h]) (by
      rw [charL_map, List.map_map]
      refine mapP_all (k := fun c => PyData.bool (inLet c)) fun c _ => ?_
      unfold pItem
      simp only [pr_run, out, oR, sSeq, sIf, eP, ePk, ePkT, eFr, frzS, frz1, shE, VH.shS_sh, VH.shS_lst, VH.shS_dic, VH.shS_scr, VH.shS_none, pVar, pC, pBin, pChain, pUn, pMap, pB, pTru, pNN, pNNo, pAnd, pOr, pNot, pAndV, pOrV, pNotV, pIf, pNil, pCons, pAll, pPart, pPart0, pSl, pM1, pSeq, pSeq2, pCall_pr, pGet2, pGet3, isDic, Pr.bind, Pr.lift, eAnd, eOr, eNot, eB, bnd, eBin, eUn, eSub, eC, VH.ret, lift, eVar, eSh, eFz, sSet, sRet, sPut, sAsg, sPar, sPar3, sFz, tgN, tgT, tgSeq, eAll, eCons, eNil, eIf, sDo, sApp, sExt, sNext, oLst, oAdd, oIf, oList, oDic0, eMov, eSl, ePart, eCallU, aNil, aVal, aBor, takeA, putA, sRaise, List.getElem?_cons_zero, List.getElem?_cons_succ, List.set_cons_zero, List.set_cons_succ, Nat.reduceSub, Nat.reduceAdd, Nat.reduceLT, Nat.reduceLeDiff, Option.bind, Option.map, O.fzb, O.fzbK, fz, blD, VH.isN_none, VH.isN_int, VH.isN_str, VH.isN_bool, VH.isN_tup, VH.isN_lst, VH.isN_dic, vi_int, vi_bool, vi_str, vi_tuple, vi_list, vi_dict, truD, flR, flRA, List.map_cons, List.map_nil, List.replicate, List.cons_append, List.nil_append, List.length_cons, List.length_nil, if_true, if_false, ite_true, ite_false, Bool.false_eq_true, decide_true, decide_false, beq_self_eq_true, Bool.not_true, Bool.not_false, and_self, and_true, true_and, and_false, false_and, Bool.or_true, Bool.true_or, Bool.or_false, Bool.false_or, Bool.and_true, Bool.and_false, Bool.true_and, Bool.false_and, ne_eq, not_false_eq_true, not_true_eq_false, reduceCtorEq, VH.eq_str, VH.ne_str, VH.eq_int, VH.ne_int, VH.add_int, VH.le_int, VH.lt_int, VH.gt_int, VH.ge_int, VH.ixt0, VH.ixt1, VH.ixt2, VH.ixl0, VH.ixl1, VH.tup0, VH.tup1, VH.tup2, VH.tup3, VH.lst0, VH.lst1, VH.lst2, VH.lst3, VH.len_list, VH.len_tuple, VH.items_list, VH.items_tuple, dropE, in_char]
      rfl)
  simp only [pr_run, out, oR, sSeq, sIf, eP, ePk, ePkT, eFr, frzS, frz1, shE, VH.shS_sh, VH.shS_lst, VH.shS_dic, VH.shS_scr, VH.shS_none, pVar, pC, pBin, pChain, pUn, pMap, pB, pTru, pNN, pNNo, pAnd, pOr, pNot, pAndV, pOrV, pNotV, pIf, pNil, pCons, pAll, pPart, pPart0, pSl, pM1, pSeq, pSeq2, pCall_pr, pGet2, pGet3, isDic, Pr.bind, Pr.lift, eAnd, eOr, eNot, eB, bnd, eBin, eUn, eSub, eC, VH.ret, lift, eVar, eSh, eFz, sSet, sRet, sPut, sAsg, sPar, sPar3, sFz, tgN, tgT, tgSeq, eAll, eCons, eNil, eIf, sDo, sApp, sExt, sNext, oLst, oAdd, oIf, oList, oDic0, eMov, eSl, ePart, eCallU, aNil, aVal, aBor, takeA, putA, sRaise, List.getElem?_cons_zero, List.getElem?_cons_succ, List.set_cons_zero, List.set_cons_succ, Nat.reduceSub, Nat.reduceAdd, Nat.reduceLT, Nat.reduceLeDiff, Option.bind, Option.map, O.fzb, O.fzbK, fz, blD, VH.isN_none, VH.isN_int, VH.isN_str, VH.isN_bool, VH.isN_tup, VH.isN_lst, VH.isN_dic, vi_int, vi_bool, vi_str, vi_tuple, vi_list, vi_dict, truD, flR, flRA, List.map_cons, List.map_nil, List.replicate, List.cons_append, List.nil_append, List.length_cons, List.length_nil, if_true, if_false, ite_true, ite_false, Bool.false_eq_true, decide_true, decide_false, beq_self_eq_true, Bool.not_true, Bool.not_false, and_self, and_true, true_and, and_false, false_and, Bool.or_true, Bool.true_or, Bool.or_false, Bool.false_or, Bool.and_true, Bool.and_false, Bool.true_and, Bool.false_and, ne_eq, not_false_eq_true, not_true_eq_false, reduceCtorEq, VH.eq_str, VH.ne_str, VH.eq_int, VH.ne_int, VH.add_int, VH.le_int, VH.lt_int, VH.gt_int, VH.ge_int, VH.ixt0, VH.ixt1, VH.ixt2, VH.ixl0, VH.ixl1, VH.tup0, VH.tup1, VH.tup2, VH.tup3, VH.lst0, VH.lst1, VH.lst2, VH.lst3, VH.len_list, VH.len_tuple, VH.items_list, VH.items_tuple, hc, all_bools, varName]
  cases (x == Str.ofString "") <;> simp only [pr_run, out, oR, sSeq, sIf, eP, ePk, ePkT, eFr, frzS, frz1, shE, VH.shS_sh, VH.shS_lst, VH.shS_dic, VH.shS_scr, VH.shS_none, pVar, pC, pBin, pChain, pUn, pMap, pB, pTru, pNN, pNNo, pAnd, pOr, pNot, pAndV, pOrV, pNotV, pIf, pNil, pCons, pAll, pPart, pPart0, pSl, pM1, pSeq, pSeq2, pCall_pr, pGet2, pGet3, isDic, Pr.bind, Pr.lift, eAnd, eOr, eNot, eB, bnd, eBin, eUn, eSub, eC, VH.ret, lift, eVar, eSh, eFz, sSet, sRet, sPut, sAsg, sPar, sPar3, sFz, tgN, tgT, tgSeq, eAll, eCons, eNil, eIf, sDo, sApp, sExt, sNext, oLst, oAdd, oIf, oList, oDic0, eMov, eSl, ePart, eCallU, aNil, aVal, aBor, takeA, putA, sRaise, List.getElem?_cons_zero, List.getElem?_cons_succ, List.set_cons_zero, List.set_cons_succ, Nat.reduceSub, Nat.reduceAdd, Nat.reduceLT, Nat.reduceLeDiff, Option.bind, Option.map, O.fzb, O.fzbK, fz, blD, VH.isN_none, VH.isN_int, VH.isN_str, VH.isN_bool, VH.isN_tup, VH.isN_lst, VH.isN_dic, vi_int, vi_bool, vi_str, vi_tuple, vi_list, vi_dict, truD, flR, flRA, List.map_cons, List.map_nil, List.replicate, List.cons_append, List.nil_append, List.length_cons, List.length_nil, if_true, if_false, ite_true, ite_false, Bool.false_eq_true, decide_true, decide_false, beq_self_eq_true, Bool.not_true, Bool.not_false, and_self, and_true, true_and, and_false, false_and, Bool.or_true, Bool.true_or, Bool.or_false, Bool.false_or, Bool.and_true, Bool.and_false, Bool.true_and, Bool.false_and, ne_eq, not_false_eq_true, not_true_eq_false, reduceCtorEq, VH.eq_str, VH.ne_str, VH.eq_int, VH.ne_int, VH.add_int, VH.le_int, VH.lt_int, VH.gt_int, VH.ge_int, VH.ixt0, VH.ixt1, VH.ixt2, VH.ixl0, VH.ixl1, VH.tup0, VH.tup1, VH.tup2, VH.tup3, VH.lst0, VH.lst1, VH.lst2, VH.lst3, VH.len_list, VH.len_tuple, VH.items_list, VH.items_tuple, all_bools, hc, List.all_map]
  rfl
def termFits (t : Term) (c : Col) : Bool := match t with
  | .any => c.null
  | .is v => v.isSome && fitsCol v c
  | .var x => varName x
theorem isN_vD (v : Val) : isN (vD v) = !v.isSome := by
  cases v with
  | none => rfl
  | some k => cases k <;> rfl
theorem p_term_fits {t : Term} (h : TOk t) (c : Col) : pr (r_term_fits [.sh (tmD t), .sh (colD c)]) = .ok (.bool (termFits t c)) := by
  unfold r_term_fits b_term_fits
  cases t with
  | any => simp only [pr_run, out, oR, sSeq, sIf, eP, ePk, ePkT, eFr, frzS, frz1, shE, VH.shS_sh, VH.shS_lst, VH.shS_dic, VH.shS_scr, VH.shS_none, pVar, pC, pBin, pChain, pUn, pMap, pB, pTru, pNN, pNNo, pAnd, pOr, pNot, pAndV, pOrV, pNotV, pIf, pNil, pCons, pAll, pPart, pPart0, pSl, pM1, pSeq, pSeq2, pCall_pr, pGet2, pGet3, isDic, Pr.bind, Pr.lift, eAnd, eOr, eNot, eB, bnd, eBin, eUn, eSub, eC, VH.ret, lift, eVar, eSh, eFz, sSet, sRet, sPut, sAsg, sPar, sPar3, sFz, tgN, tgT, tgSeq, eAll, eCons, eNil, eIf, sDo, sApp, sExt, sNext, oLst, oAdd, oIf, oList, oDic0, eMov, eSl, ePart, eCallU, aNil, aVal, aBor, takeA, putA, sRaise, List.getElem?_cons_zero, List.getElem?_cons_succ, List.set_cons_zero, List.set_cons_succ, Nat.reduceSub, Nat.reduceAdd, Nat.reduceLT, Nat.reduceLeDiff, Option.bind, Option.map, O.fzb, O.fzbK, fz, blD, VH.isN_none, VH.isN_int, VH.isN_str, VH.isN_bool, VH.isN_tup, VH.isN_lst, VH.isN_dic, vi_int, vi_bool, vi_str, vi_tuple, vi_list, vi_dict, truD, flR, flRA, List.map_cons, List.map_nil, List.replicate, List.cons_append, List.nil_append, List.length_cons, List.length_nil, if_true, if_false, ite_true, ite_false, Bool.false_eq_true, decide_true, decide_false, beq_self_eq_true, Bool.not_true, Bool.not_false, and_self, and_true, true_and, and_false, false_and, Bool.or_true, Bool.true_or, Bool.or_false, Bool.false_or, Bool.and_true, Bool.and_false, Bool.true_and, Bool.false_and, ne_eq, not_false_eq_true, not_true_eq_false, reduceCtorEq, VH.eq_str, VH.ne_str, VH.eq_int, VH.ne_int, VH.add_int, VH.le_int, VH.lt_int, VH.gt_int, VH.ge_int, VH.ixt0, VH.ixt1, VH.ixt2, VH.ixl0, VH.ixl1, VH.tup0, VH.tup1, VH.tup2, VH.tup3, VH.lst0, VH.lst1, VH.lst2, VH.lst3, VH.len_list, VH.len_tuple, VH.items_list, VH.items_tuple, tmD, colD, termFits]
  | is v =>
    have e1 := p_fits_column (v := v) h c
    have e2 := isN_vD v
    simp only [pr_run, out, oR, sSeq, sIf, eP, ePk, ePkT, eFr, frzS, frz1, shE, VH.shS_sh, VH.shS_lst, VH.shS_dic, VH.shS_scr, VH.shS_none, pVar, pC, pBin, pChain, pUn, pMap, pB, pTru, pNN, pNNo, pAnd, pOr, pNot, pAndV, pOrV, pNotV, pIf, pNil, pCons, pAll, pPart, pPart0, pSl, pM1, pSeq, pSeq2, pCall_pr, pGet2, pGet3, isDic, Pr.bind, Pr.lift, eAnd, eOr, eNot, eB, bnd, eBin, eUn, eSub, eC, VH.ret, lift, eVar, eSh, eFz, sSet, sRet, sPut, sAsg, sPar, sPar3, sFz, tgN, tgT, tgSeq, eAll, eCons, eNil, eIf, sDo, sApp, sExt, sNext, oLst, oAdd, oIf, oList, oDic0, eMov, eSl, ePart, eCallU, aNil, aVal, aBor, takeA, putA, sRaise, List.getElem?_cons_zero, List.getElem?_cons_succ, List.set_cons_zero, List.set_cons_succ, Nat.reduceSub, Nat.reduceAdd, Nat.reduceLT, Nat.reduceLeDiff, Option.bind, Option.map, O.fzb, O.fzbK, fz, blD, VH.isN_none, VH.isN_int, VH.isN_str, VH.isN_bool, VH.isN_tup, VH.isN_lst, VH.isN_dic, vi_int, vi_bool, vi_str, vi_tuple, vi_list, vi_dict, truD, flR, flRA, List.map_cons, List.map_nil, List.replicate, List.cons_append, List.nil_append, List.length_cons, List.length_nil, if_true, if_false, ite_true, ite_false, Bool.false_eq_true, decide_true, decide_false, beq_self_eq_true, Bool.not_true, Bool.not_false, and_self, and_true, true_and, and_false, false_and, Bool.or_true, Bool.true_or, Bool.or_false, Bool.false_or, Bool.and_true, Bool.and_false, Bool.true_and, Bool.false_and, ne_eq, not_false_eq_true, not_true_eq_false, reduceCtorEq, VH.eq_str, VH.ne_str, VH.eq_int, VH.ne_int, VH.add_int, VH.le_int, VH.lt_int, VH.gt_int, VH.ge_int, VH.ixt0, VH.ixt1, VH.ixt2, VH.ixl0, VH.ixl1, VH.tup0, VH.tup1, VH.tup2, VH.tup3, VH.lst0, VH.lst1, VH.lst2, VH.lst3, VH.len_list, VH.len_tuple, VH.items_list, VH.items_tuple, tmD, is_ne_var, termFits, e2]
    cases v with
    | none => simp only [pr_run, out, oR, sSeq, sIf, eP, ePk, ePkT, eFr, frzS, frz1, shE, VH.shS_sh, VH.shS_lst, VH.shS_dic, VH.shS_scr, VH.shS_none, pVar, pC, pBin, pChain, pUn, pMap, pB, pTru, pNN, pNNo, pAnd, pOr, pNot, pAndV, pOrV, pNotV, pIf, pNil, pCons, pAll, pPart, pPart0, pSl, pM1, pSeq, pSeq2, pCall_pr, pGet2, pGet3, isDic, Pr.bind, Pr.lift, eAnd, eOr, eNot, eB, bnd, eBin, eUn, eSub, eC, VH.ret, lift, eVar, eSh, eFz, sSet, sRet, sPut, sAsg, sPar, sPar3, sFz, tgN, tgT, tgSeq, eAll, eCons, eNil, eIf, sDo, sApp, sExt, sNext, oLst, oAdd, oIf, oList, oDic0, eMov, eSl, ePart, eCallU, aNil, aVal, aBor, takeA, putA, sRaise, List.getElem?_cons_zero, List.getElem?_cons_succ, List.set_cons_zero, List.set_cons_succ, Nat.reduceSub, Nat.reduceAdd, Nat.reduceLT, Nat.reduceLeDiff, Option.bind, Option.map, O.fzb, O.fzbK, fz, blD, VH.isN_none, VH.isN_int, VH.isN_str, VH.isN_bool, VH.isN_tup, VH.isN_lst, VH.isN_dic, vi_int, vi_bool, vi_str, vi_tuple, vi_list, vi_dict, truD, flR, flRA, List.map_cons, List.map_nil, List.replicate, List.cons_append, List.nil_append, List.length_cons, List.length_nil, if_true, if_false, ite_true, ite_false, Bool.false_eq_true, decide_true, decide_false, beq_self_eq_true, Bool.not_true, Bool.not_false, and_self, and_true, true_and, and_false, false_and, Bool.or_true, Bool.true_or, Bool.or_false, Bool.false_or, Bool.and_true, Bool.and_false, Bool.true_and, Bool.false_and, ne_eq, not_false_eq_true, not_true_eq_false, reduceCtorEq, VH.eq_str, VH.ne_str, VH.eq_int, VH.ne_int, VH.add_int, VH.le_int, VH.lt_int, VH.gt_int, VH.ge_int, VH.ixt0, VH.ixt1, VH.ixt2, VH.ixl0, VH.ixl1, VH.tup0, VH.tup1, VH.tup2, VH.tup3, VH.lst0, VH.lst1, VH.lst2, VH.lst3, VH.len_list, VH.len_tuple, VH.items_list, VH.items_tuple, Option.isSome_none]
    | some k => simp only [pr_run, out, oR, sSeq, sIf, eP, ePk, ePkT, eFr, frzS, frz1, shE, VH.shS_sh, VH.shS_lst, VH.shS_dic, VH.shS_scr, VH.shS_none, pVar, pC, pBin, pChain, pUn, pMap, pB, pTru, pNN, pNNo, pAnd, pOr, pNot, pAndV, pOrV, pNotV, pIf, pNil, pCons, pAll, pPart, pPart0, pSl, pM1, pSeq, pSeq2, pCall_pr, pGet2, pGet3, isDic, Pr.bind, Pr.lift, eAnd, eOr, eNot, eB, bnd, eBin, eUn, eSub, eC, VH.ret, lift, eVar, eSh, eFz, sSet, sRet, sPut, sAsg, sPar, sPar3, sFz, tgN, tgT, tgSeq, eAll, eCons, eNil, eIf, sDo, sApp, sExt, sNext, oLst, oAdd, oIf, oList, oDic0, eMov, eSl, ePart, eCallU, aNil, aVal, aBor, takeA, putA, sRaise, List.getElem?_cons_zero, List.getElem?_cons_succ, List.set_cons_zero, List.set_cons_succ, Nat.reduceSub, Nat.reduceAdd, Nat.reduceLT, Nat.reduceLeDiff, Option.bind, Option.map, O.fzb, O.fzbK, fz, blD, VH.isN_none, VH.isN_int, VH.isN_str, VH.isN_bool, VH.isN_tup, VH.isN_lst, VH.isN_dic, vi_int, vi_bool, vi_str, vi_tuple, vi_list, vi_dict, truD, flR, flRA, List.map_cons, List.map_nil, List.replicate, List.cons_append, List.nil_append, List.length_cons, List.length_nil, if_true, if_false, ite_true, ite_false, Bool.false_eq_true, decide_true, decide_false, beq_self_eq_true, Bool.not_true, Bool.not_false, and_self, and_true, true_and, and_false, false_and, Bool.or_true, Bool.true_or, Bool.or_false, Bool.false_or, Bool.and_true, Bool.and_false, Bool.true_and, Bool.false_and, ne_eq, not_false_eq_true, not_true_eq_false, reduceCtorEq, VH.eq_str, VH.ne_str, VH.eq_int, VH.ne_int, VH.add_int, VH.le_int, VH.lt_int, VH.gt_int, VH.ge_int, VH.ixt0, VH.ixt1, VH.ixt2, VH.ixl0, VH.ixl1, VH.tup0, VH.tup1, VH.tup2, VH.tup3, VH.lst0, VH.lst1, VH.lst2, VH.lst3, VH.len_list, VH.len_tuple, VH.items_list, VH.items_tuple, Option.isSome_some, e1]
  | var x =>
    have e1 := p_is_variable_name (x := x) h
    simp only [pr_run, out, oR, sSeq, sIf, eP, ePk, ePkT, eFr, frzS, frz1, shE, VH.shS_sh, VH.shS_lst, VH.shS_dic, VH.shS_scr, VH.shS_none, pVar, pC, pBin, pChain, pUn, pMap, pB, pTru, pNN, pNNo, pAnd, pOr, pNot, pAndV, pOrV, pNotV, pIf, pNil, pCons, pAll, pPart, pPart0, pSl, pM1, pSeq, pSeq2, pCall_pr, pGet2, pGet3, isDic, Pr.bind, Pr.lift, eAnd, eOr, eNot, eB, bnd, eBin, eUn, eSub, eC, VH.ret, lift, eVar, eSh, eFz, sSet, sRet, sPut, sAsg, sPar, sPar3, sFz, tgN, tgT, tgSeq, eAll, eCons, eNil, eIf, sDo, sApp, sExt, sNext, oLst, oAdd, oIf, oList, oDic0, eMov, eSl, ePart, eCallU, aNil, aVal, aBor, takeA, putA, sRaise, List.getElem?_cons_zero, List.getElem?_cons_succ, List.set_cons_zero, List.set_cons_succ, Nat.reduceSub, Nat.reduceAdd, Nat.reduceLT, Nat.reduceLeDiff, Option.bind, Option.map, O.fzb, O.fzbK, fz, blD, VH.isN_none, VH.isN_int, VH.isN_str, VH.isN_bool, VH.isN_tup, VH.isN_lst, VH.isN_dic, vi_int, vi_bool, vi_str, vi_tuple, vi_list, vi_dict, truD, flR, flRA, List.map_cons, List.map_nil, List.replicate, List.cons_append, List.nil_append, List.length_cons, List.length_nil, if_true, if_false, ite_true, ite_false, Bool.false_eq_true, decide_true, decide_false, beq_self_eq_true, Bool.not_true, Bool.not_false, and_self, and_true, true_and, and_false, false_and, Bool.or_true, Bool.true_or, Bool.or_false, Bool.false_or, Bool.and_true, Bool.and_false, Bool.true_and, Bool.false_and, ne_eq, not_false_eq_true, not_true_eq_false, reduceCtorEq, VH.eq_str, VH.ne_str, VH.eq_int, VH.ne_int, VH.add_int, VH.le_int, VH.lt_int, VH.gt_int, VH.ge_int, VH.ixt0, VH.ixt1, VH.ixt2, VH.ixl0, VH.ixl1, VH.tup0, VH.tup1, VH.tup2, VH.tup3, VH.lst0, VH.lst1, VH.lst2, VH.lst3, VH.len_list, VH.len_tuple, VH.items_list, VH.items_tuple, tmD, termFits, e1]
def termsFit (ts : List Term) (cs : List Col) : Bool := decide (ts.length = cs.length) && ((ts.zip cs).map fun p => termFits p.1 p.2).all id
theorem zip_maps {α β : Type} (f : α → D) (g : β → D) (xs : List α) (ys : List β) : zipL (xs.map f) (ys.map g) = (xs.zip ys).map fun p => .tuple [f p.1, g p.2] := by
  unfold zipL
  rw [List.zip_map, List.map_map]
  rfl
theorem zip_tl (xs ys : List D) : zipB (.tuple xs) (.list ys) = some (zipL xs ys) := rfl
theorem p_terms_fit {ts : List Term} (h : ∀ t ∈ ts, TOk t) (cs : List Col) : pr (r_terms_fit [.sh (.tuple (ts.map tmD)), .sh (.list (cs.map colD))]) = .ok (.bool (termsFit ts cs)) := by
  unfold r_terms_fit b_terms_fit
  have hc : pComp (pSeq2 zipB (pVar 0) (pVar 1)) (tgT 2 [tgN 2, tgN 3]) [2, 3] (fun _ => .ok true) (pCall r_term_fits (pCons (pVar 2) (pCons (pVar 3) (pNil)))) [some (.sh (.tuple (ts.map tmD))), some (.sh (.list (cs.map colD))), none, none] = .ok (.list (((ts.zip cs).map fun p => termFits p.1 p.2).map .bool)) :=
    pCompL_eq (items := zipL (ts.map tmD) (cs.map colD)) (by simp only [pr_run, out, oR, sSeq, sIf, eP, ePk, ePkT, eFr, frzS, frz1, shE, VH.shS_sh, VH.shS_lst, VH.shS_dic, VH.shS_scr, VH.shS_none, pVar, pC, pBin, pChain, pUn, pMap, pB, pTru, pNN, pNNo, pAnd, pOr, pNot, pAndV, pOrV, pNotV, pIf, pNil, pCons, pAll, pPart, pPart0, pSl, pM1, pSeq, pSeq2, pCall_pr, pGet2, pGet3, isDic, Pr.bind, Pr.lift, eAnd, eOr, eNot, eB, bnd, eBin, eUn, eSub, eC, VH.ret, lift, eVar, eSh, eFz, sSet, sRet, sPut, sAsg, sPar, sPar3, sFz, tgN, tgT, tgSeq, eAll, eCons, eNil, eIf, sDo, sApp, sExt, sNext, oLst, oAdd, oIf, oList, oDic0, eMov, eSl, ePart, eCallU, aNil, aVal, aBor, takeA, putA, sRaise, List.getElem?_cons_zero, List.getElem?_cons_succ, List.set_cons_zero, List.set_cons_succ, Nat.reduceSub, Nat.reduceAdd, Nat.reduceLT, Nat.reduceLeDiff, Option.bind, Option.map, O.fzb, O.fzbK, fz, blD, VH.isN_none, VH.isN_int, VH.isN_str, VH.isN_bool, VH.isN_tup, VH.isN_lst, VH.isN_dic, vi_int, vi_bool, vi_str, vi_tuple, vi_list, vi_dict, truD, flR, flRA, List.map_cons, List.map_nil, List.replicate, List.cons_append, List.nil_append, List.length_cons, List.length_nil, if_true, if_false, ite_true, ite_false, Bool.false_eq_true, decide_true, decide_false, beq_self_eq_true, Bool.not_true, Bool.not_false, and_self, and_true, true_and, and_false, false_and, Bool.or_true, Bool.true_or, Bool.or_false, Bool.false_or, Bool.and_true, Bool.and_false, Bool.true_and, Bool.false_and, ne_eq, not_false_eq_true, not_true_eq_false, reduceCtorEq, VH.eq_str, VH.ne_str, VH.eq_int, VH.ne_int, VH.add_int, VH.le_int, VH.lt_int, VH.gt_int, VH.ge_int, VH.ixt0, VH.ixt1, VH.ixt2, VH.ixl0, VH.ixl1, VH.tup0, VH.tup1, VH.tup2, VH.tup3, VH.lst0, VH.lst1, VH.lst2, VH.lst3, VH.len_list, VH.len_tuple, VH.items_list, VH.items_tuple, zip_tl]) (by
      rw [zip_maps, List.map_map]
      refine mapP_all (k := fun p : Term × Col => PyData.bool (termFits p.1 p.2)) fun p hp => ?_
      have e := p_term_fits (t := p.1) (h p.1 (List.of_mem_zip hp).1) p.2
      unfold pItem
      simp only [pr_run, out, oR, sSeq, sIf, eP, ePk, ePkT, eFr, frzS, frz1, shE, VH.shS_sh, VH.shS_lst, VH.shS_dic, VH.shS_scr, VH.shS_none, pVar, pC, pBin, pChain, pUn, pMap, pB, pTru, pNN, pNNo, pAnd, pOr, pNot, pAndV, pOrV, pNotV, pIf, pNil, pCons, pAll, pPart, pPart0, pSl, pM1, pSeq, pSeq2, pCall_pr, pGet2, pGet3, isDic, Pr.bind, Pr.lift, eAnd, eOr, eNot, eB, bnd, eBin, eUn, eSub, eC, VH.ret, lift, eVar, eSh, eFz, sSet, sRet, sPut, sAsg, sPar, sPar3, sFz, tgN, tgT, tgSeq, eAll, eCons, eNil, eIf, sDo, sApp, sExt, sNext, oLst, oAdd, oIf, oList, oDic0, eMov, eSl, ePart, eCallU, aNil, aVal, aBor, takeA, putA, sRaise, List.getElem?_cons_zero, List.getElem?_cons_succ, List.set_cons_zero, List.set_cons_succ, Nat.reduceSub, Nat.reduceAdd, Nat.reduceLT, Nat.reduceLeDiff, Option.bind, Option.map, O.fzb, O.fzbK, fz, blD, VH.isN_none, VH.isN_int, VH.isN_str, VH.isN_bool, VH.isN_tup, VH.isN_lst, VH.isN_dic, vi_int, vi_bool, vi_str, vi_tuple, vi_list, vi_dict, truD, flR, flRA, List.map_cons, List.map_nil, List.replicate, List.cons_append, List.nil_append, List.length_cons, List.length_nil, if_true, if_false, ite_true, ite_false, Bool.false_eq_true, decide_true, decide_false, beq_self_eq_true, Bool.not_true, Bool.not_false, and_self, and_true, true_and, and_false, false_and, Bool.or_true, Bool.true_or, Bool.or_false, Bool.false_or, Bool.and_true, Bool.and_false, Bool.true_and, Bool.false_and, ne_eq, not_false_eq_true, not_true_eq_false, reduceCtorEq, VH.eq_str, VH.ne_str, VH.eq_int, VH.ne_int, VH.add_int, VH.le_int, VH.lt_int, VH.gt_int, VH.ge_int, VH.ixt0, VH.ixt1, VH.ixt2, VH.ixl0, VH.ixl1, VH.tup0, VH.tup1, VH.tup2, VH.tup3, VH.lst0, VH.lst1, VH.lst2, VH.lst3, VH.len_list, VH.len_tuple, VH.items_list, VH.items_tuple, dropE, e])
  simp only [pr_run, out, oR, sSeq, sIf, eP, ePk, ePkT, eFr, frzS, frz1, shE, VH.shS_sh, VH.shS_lst, VH.shS_dic, VH.shS_scr, VH.shS_none, pVar, pC, pBin, pChain, pUn, pMap, pB, pTru, pNN, pNNo, pAnd, pOr, pNot, pAndV, pOrV, pNotV, pIf, pNil, pCons, pAll, pPart, pPart0, pSl, pM1, pSeq, pSeq2, pCall_pr, pGet2, pGet3, isDic, Pr.bind, Pr.lift, eAnd, eOr, eNot, eB, bnd, eBin, eUn, eSub, eC, VH.ret, lift, eVar, eSh, eFz, sSet, sRet, sPut, sAsg, sPar, sPar3, sFz, tgN, tgT, tgSeq, eAll, eCons, eNil, eIf, sDo, sApp, sExt, sNext, oLst, oAdd, oIf, oList, oDic0, eMov, eSl, ePart, eCallU, aNil, aVal, aBor, takeA, putA, sRaise, List.getElem?_cons_zero, List.getElem?_cons_succ, List.set_cons_zero, List.set_cons_succ, Nat.reduceSub, Nat.reduceAdd, Nat.reduceLT, Nat.reduceLeDiff, Option.bind, Option.map, O.fzb, O.fzbK, fz, blD, VH.isN_none, VH.isN_int, VH.isN_str, VH.isN_bool, VH.isN_tup, VH.isN_lst, VH.isN_dic, vi_int, vi_bool, vi_str, vi_tuple, vi_list, vi_dict, truD, flR, flRA, List.map_cons, List.map_nil, List.replicate, List.cons_append, List.nil_append, List.length_cons, List.length_nil, if_true, if_false, ite_true, ite_false, Bool.false_eq_true, decide_true, decide_false, beq_self_eq_true, Bool.not_true, Bool.not_false, and_self, and_true, true_and, and_false, false_and, Bool.or_true, Bool.true_or, Bool.or_false, Bool.false_or, Bool.and_true, Bool.and_false, Bool.true_and, Bool.false_and, ne_eq, not_false_eq_true, not_true_eq_false, reduceCtorEq, VH.eq_str, VH.ne_str, VH.eq_int, VH.ne_int, VH.add_int, VH.le_int, VH.lt_int, VH.gt_int, VH.ge_int, VH.ixt0, VH.ixt1, VH.ixt2, VH.ixl0, VH.ixl1, VH.tup0, VH.tup1, VH.tup2, VH.tup3, VH.lst0, VH.lst1, VH.lst2, VH.lst3, VH.len_list, VH.len_tuple, VH.items_list, VH.items_tuple, hc, all_bools, termsFit, List.length_map]
  by_cases c : ts.length = cs.length
  · have c2 : ((ts.length : Int) == cs.length) = true := by simp [c]
    simp only [pr_run, out, oR, sSeq, sIf, eP, ePk, ePkT, eFr, frzS, frz1, shE, VH.shS_sh, VH.shS_lst, VH.shS_dic, VH.shS_scr, VH.shS_none, pVar, pC, pBin, pChain, pUn, pMap, pB, pTru, pNN, pNNo, pAnd, pOr, pNot, pAndV, pOrV, pNotV, pIf, pNil, pCons, pAll, pPart, pPart0, pSl, pM1, pSeq, pSeq2, pCall_pr, pGet2, pGet3, isDic, Pr.bind, Pr.lift, eAnd, eOr, eNot, eB, bnd, eBin, eUn, eSub, eC, VH.ret, lift, eVar, eSh, eFz, sSet, sRet, sPut, sAsg, sPar, sPar3, sFz, tgN, tgT, tgSeq, eAll, eCons, eNil, eIf, sDo, sApp, sExt, sNext, oLst, oAdd, oIf, oList, oDic0, eMov, eSl, ePart, eCallU, aNil, aVal, aBor, takeA, putA, sRaise, List.getElem?_cons_zero, List.getElem?_cons_succ, List.set_cons_zero, List.set_cons_succ, Nat.reduceSub, Nat.reduceAdd, Nat.reduceLT, Nat.reduceLeDiff, Option.bind, Option.map, O.fzb, O.fzbK, fz, blD, VH.isN_none, VH.isN_int, VH.isN_str, VH.isN_bool, VH.isN_tup, VH.isN_lst, VH.isN_dic, vi_int, vi_bool, vi_str, vi_tuple, vi_list, vi_dict, truD, flR, flRA, List.map_cons, List.map_nil, List.replicate, List.cons_append, List.nil_append, List.length_cons, List.length_nil, if_true, if_false, ite_true, ite_false, Bool.false_eq_true, decide_true, decide_false, beq_self_eq_true, Bool.not_true, Bool.not_false, and_self, and_true, true_and, and_false, false_and, Bool.or_true, Bool.true_or, Bool.or_false, Bool.false_or, Bool.and_true, Bool.and_false, Bool.true_and, Bool.false_and, ne_eq, not_false_eq_true, not_true_eq_false, reduceCtorEq, VH.eq_str, VH.ne_str, VH.eq_int, VH.ne_int, VH.add_int, VH.le_int, VH.lt_int, VH.gt_int, VH.ge_int, VH.ixt0, VH.ixt1, VH.ixt2, VH.ixl0, VH.ixl1, VH.tup0, VH.tup1, VH.tup2, VH.tup3, VH.lst0, VH.lst1, VH.lst2, VH.lst3, VH.len_list, VH.len_tuple, VH.items_list, VH.items_tuple, c, c2, hc, all_bools]
  · have c2 : ((ts.length : Int) == cs.length) = false := by simp; omega
    simp only [pr_run, out, oR, sSeq, sIf, eP, ePk, ePkT, eFr, frzS, frz1, shE, VH.shS_sh, VH.shS_lst, VH.shS_dic, VH.shS_scr, VH.shS_none, pVar, pC, pBin, pChain, pUn, pMap, pB, pTru, pNN, pNNo, pAnd, pOr, pNot, pAndV, pOrV, pNotV, pIf, pNil, pCons, pAll, pPart, pPart0, pSl, pM1, pSeq, pSeq2, pCall_pr, pGet2, pGet3, isDic, Pr.bind, Pr.lift, eAnd, eOr, eNot, eB, bnd, eBin, eUn, eSub, eC, VH.ret, lift, eVar, eSh, eFz, sSet, sRet, sPut, sAsg, sPar, sPar3, sFz, tgN, tgT, tgSeq, eAll, eCons, eNil, eIf, sDo, sApp, sExt, sNext, oLst, oAdd, oIf, oList, oDic0, eMov, eSl, ePart, eCallU, aNil, aVal, aBor, takeA, putA, sRaise, List.getElem?_cons_zero, List.getElem?_cons_succ, List.set_cons_zero, List.set_cons_succ, Nat.reduceSub, Nat.reduceAdd, Nat.reduceLT, Nat.reduceLeDiff, Option.bind, Option.map, O.fzb, O.fzbK, fz, blD, VH.isN_none, VH.isN_int, VH.isN_str, VH.isN_bool, VH.isN_tup, VH.isN_lst, VH.isN_dic, vi_int, vi_bool, vi_str, vi_tuple, vi_list, vi_dict, truD, flR, flRA, List.map_cons, List.map_nil, List.replicate, List.cons_append, List.nil_append, List.length_cons, List.length_nil, if_true, if_false, ite_true, ite_false, Bool.false_eq_true, decide_true, decide_false, beq_self_eq_true, Bool.not_true, Bool.not_false, and_self, and_true, true_and, and_false, false_and, Bool.or_true, Bool.true_or, Bool.or_false, Bool.false_or, Bool.and_true, Bool.and_false, Bool.true_and, Bool.false_and, ne_eq, not_false_eq_true, not_true_eq_false, reduceCtorEq, VH.eq_str, VH.ne_str, VH.eq_int, VH.ne_int, VH.add_int, VH.le_int, VH.lt_int, VH.gt_int, VH.ge_int, VH.ixt0, VH.ixt1, VH.ixt2, VH.ixl0, VH.ixl1, VH.tup0, VH.tup1, VH.tup2, VH.tup3, VH.lst0, VH.lst1, VH.lst2, VH.lst3, VH.len_list, VH.len_tuple, VH.items_list, VH.items_tuple, c, c2]
end VC
set_option Elab.async false
set_option linter.all false
set_option maxRecDepth 100000
set_option maxHeartbeats 4000000
namespace VC
open PySem PySem.Spec PyProof.Rows L2 VH
/-! ### kinds_of -/
abbrev Fk := List (Str × Bool)
def fkO (f : Fk) : List (Key × O) := f.map fun p => (.inr p.1, .sh (.str (kindS p.2)))
def fkD (f : Fk) : List (D × D) := f.map fun p => (.str p.1, .str (kindS p.2))
theorem fz_fk : ∀ f : Fk, fzK (fkO f) = fkD f
  | [] => rfl
  | p :: f => by
    show (kD (.inr p.1), fz (.sh (.str (kindS p.2)))) :: fzK (fkO f) = _
    rw [fz_fk f]; rfl
theorem fzb_fk : ∀ f : Fk, O.fzbK (fkO f) = true
  | [] => rfl
  | p :: f => by
    show (true && O.fzbK (fkO f)) = true
    rw [fzb_fk f]; rfl
theorem look_fk (x : Str) : ∀ f : Fk, lookK (fkD f) (.inr x) = (f.lookup x).map fun b => .str (kindS b)
  | [] => rfl
  | p :: f => by
    show (if keyOf (.str p.1) = some (.inr x) then some (.str (kindS p.2)) else lookK (fkD f) (.inr x)) = _
    rw [List.lookup_cons, look_fk x f]
    by_cases h : x = p.1
    · subst h
      rw [if_pos (show VH.keyOf (.str p.1) = some (.inr p.1) from rfl)]
      simp
    · have h2 : ¬ keyOf (.str p.1) = some (.inr x) := fun q => h (by injection q with q; injection q with q; exact q.symm)
      have h3 : (x == p.1) = false := by simpa using h
      rw [if_neg h2, h3]
theorem put_fk_new {x : Str} {b : Bool} {f : Fk} (h : f.lookup x = none) : putO (fkO f) (.inr x) (.sh (.str (kindS b))) = fkO (f ++ [(x, b)]) := by
  unfold putO
  have : ((fkO f).any fun kv => decide (kv.1 = (.inr x : Key))) = false := by
    unfold fkO
    rw [List.any_map]
    induction f with
    | nil => rfl
    | cons p f ih =>
      rw [List.lookup_cons] at h
      cases hx : (x == p.1) with
      | true => rw [hx] at h; cases h
      | false =>
        rw [hx] at h
        rw [List.any_cons, ih h]
        have : ¬ p.1 = x := fun q => by rw [q] at hx; simp at hx
        simp [this]
  rw [if_neg (by rw [this]; exact Bool.false_ne_true)]
  unfold fkO
  rw [List.map_append]
  rfl
theorem put_fk_old {x : Str} {b : Bool} : ∀ {f : Fk}, f.lookup x = some b → (f.map (·.1)).Nodup → putO (fkO f) (.inr x) (.sh (.str (kindS b))) = fkO f := by
  intro f h hn
  unfold putO
  have ha : ((fkO f).any fun kv => decide (kv.1 = (.inr x : Key))) = true := by
    unfold fkO
    rw [List.any_map]
    induction f with
    | nil => cases h
    | cons p f ih =>
      rw [List.lookup_cons] at h
      rw [List.any_cons]
      cases hx : (x == p.1) with
      | true =>
        have : x = p.1 := by simpa using hx
        simp [this]
      | false =>
        rw [hx] at h
        rw [ih h (List.nodup_cons.mp (by simpa using hn)).2]
        simp
  rw [if_pos ha]
  clear ha
  induction f with
  | nil => rfl
  | cons p f ih =>
    show _ :: _ = _ :: _
    rw [List.lookup_cons] at h
    have hn' := List.nodup_cons.mp (show (p.1 :: f.map (·.1)).Nodup from hn)
    have rest : ∀ g : Fk, (∀ q ∈ g, q.1 ≠ x) → List.map (fun kv : Key × O => if kv.1 = .inr x then (kv.1, O.sh (.str (kindS b))) else kv) (fkO g) = fkO g := by
      intro g hg
      unfold fkO
      rw [List.map_map]
      refine List.map_congr_left fun q hq => ?_
      have h1 : ¬ (Sum.inr q.1 : Key) = .inr x := fun z => hg q hq (Sum.inr.inj z)
      simp [h1]
    cases hx : (x == p.1) with
    | true =>
      have hx' : x = p.1 := by simpa using hx
      rw [hx] at h
      have hb : p.2 = b := by simpa using h
      subst hb hx'
      congr 1
      · simp
      · exact rest f fun q hq z => hn'.1 (List.mem_map.mpr ⟨q, hq, z⟩)
    | false =>
      rw [hx] at h
      have hx' : ¬ p.1 = x := fun q => by rw [q] at hx; simp at hx
      congr 1
      · have h1 : ¬ (Sum.inr p.1 : Key) = .inr x := fun z => hx' (Sum.inr.inj z)
        simp [h1]
      · exact ih h hn'.2
def kstep (f : Fk) (p : Term × Col) : Except Ex Fk := match p.1 with
  | .var x => match f.lookup x with
    | some k => if k = p.2.int then .ok f else .error (.ret (.sh .none))
    | none => .ok (f ++ [(x, p.2.int)])
  | _ => .ok f
def colsOf (s : Sch) (t : Str) : List Col := (s.lookup t).getD []
def katom (s : Sch) (f : Fk) (a : Atom) : Except Ex Fk := (a.2.zip (colsOf s a.1)).foldlM kstep f
def kindsOf (s : Sch) (as : List Atom) : Except Ex Fk := as.foldlM (katom s) []
theorem kD_inr (x : Str) : keyOf (.str x) = some (.inr x) := rfl
theorem lookup_sc (t : Str) : ∀ s : Sch, lookK (s.map fun p => (PyData.str p.1, tbD p.2)) (.inr t) = (s.lookup t).map tbD
  | [] => rfl
  | p :: s => by
    show (if keyOf (.str p.1) = some (.inr t) then some (tbD p.2) else lookK (s.map fun p => (PyData.str p.1, tbD p.2)) (.inr t)) = _
    rw [List.lookup_cons, lookup_sc t s]
    by_cases h : t = p.1
    · subst h
      rw [if_pos (show VH.keyOf (.str p.1) = some (.inr p.1) from rfl)]
      simp
    · have h2 : ¬ keyOf (.str p.1) = some (.inr t) := fun q => h (by injection q with q; injection q with q; exact q.symm)
      have h3 : (t == p.1) = false := by simpa using h
      rw [if_neg h2, h3]
theorem idx_sc {s : Sch} {t : Str} {cs : List Col} (h : s.lookup t = some cs) : idxD (scD s) (.str t) = some (tbD cs) := by
  show (keyOf (.str t)).bind (lookK (s.map fun p => (PyData.str p.1, tbD p.2))) = _
  rw [kD_inr, Option.bind_some, lookup_sc, h]
  rfl
theorem idx_tb (cs : List Col) : idxD (tbD cs) (.str (Str.ofString "columns")) = some (.list (cs.map colD)) := by
  show (keyOf (.str (Str.ofString "columns"))).bind (lookK _) = _
  rw [kD_inr, Option.bind_some]
  unfold lookK
  rw [if_pos (show VH.keyOf (.str (Str.ofString "columns")) = some (.inr (Str.ofString "columns")) from rfl)]
def Nd (f : Fk) : Prop := (f.map (·.1)).Nodup
theorem nd_snoc {f : Fk} {x : Str} {b : Bool} (h : Nd f) (hl : f.lookup x = none) : Nd (f ++ [(x, b)]) := by
  unfold Nd at *
  rw [List.map_append, List.nodup_append]
  refine ⟨h, by simp, fun a ha c hc => ?_⟩
  have : c = x := by simpa using hc
  subst this
  intro e
  subst e
  obtain ⟨q, hq, e⟩ := List.mem_map.mp ha
  have := List.lookup_eq_none_iff.mp hl q hq
  rw [e] at this
  simp at this
theorem L1_kinds (SC AT A B : Option O) (N : Nat) (hN : N ≤ 1000) (b : Fk) (p : Term × Col) (r : List (Term × Col)) (env : En) (h : ∃ u v, env = [SC, AT, some (.dic (fkO b)), A, B, u, v] ∧ Nd b ∧ b.length + (p :: r).length ≤ N) :
    ∃ env1, tgT 2 [tgN 5, tgN 6] (.tuple [tmD p.1, colD p.2]) env = some env1 ∧ Got (L1_kinds_of env1) (kstep b p) (fun f env => ∃ u v, env = [SC, AT, some (.dic (fkO f)), A, B, u, v] ∧ Nd f ∧ f.length + r.length ≤ N) (fun _ => True) := by
  obtain ⟨u, v, rfl, nd, hl⟩ := h
  obtain ⟨t, c⟩ := p
  have hlen : (fkO b).length < sizeLine := by
    unfold fkO
    rw [List.length_map]
    rw [List.length_cons] at hl
    exact Nat.lt_of_le_of_lt (by omega) (small1000 hN)
  rw [List.length_cons] at hl
  refine ⟨[SC, AT, some (.dic (fkO b)), A, B, some (.sh (tmD t)), some (.sh (colD c))], by simp only [pr_run, out, oR, sSeq, sIf, eP, ePk, ePkT, eFr, frzS, frz1, shE, VH.shS_sh, VH.shS_lst, VH.shS_dic, VH.shS_scr, VH.shS_none, pVar, pC, pBin, pChain, pUn, pMap, pB, pTru, pNN, pNNo, pAnd, pOr, pNot, pAndV, pOrV, pNotV, pIf, pNil, pCons, pAll, pPart, pPart0, pSl, pM1, pSeq, pSeq2, pCall_pr, pGet2, pGet3, isDic, Pr.bind, Pr.lift, eAnd, eOr, eNot, eB, bnd, eBin, eUn, eSub, eC, VH.ret, lift, eVar, eSh, eFz, sSet, sRet, sPut, sAsg, sPar, sPar3, sFz, tgN, tgT, tgSeq, eAll, eCons, eNil, eIf, sDo, sApp, sExt, sNext, oLst, oAdd, oIf, oList, oDic0, eMov, eSl, ePart, eCallU, aNil, aVal, aBor, takeA, putA, sRaise, List.getElem?_cons_zero, List.getElem?_cons_succ, List.set_cons_zero, List.set_cons_succ, Nat.reduceSub, Nat.reduceAdd, Nat.reduceLT, Nat.reduceLeDiff, Option.bind, Option.map, O.fzb, O.fzbK, fz, blD, VH.isN_none, VH.isN_int, VH.isN_str, VH.isN_bool, VH.isN_tup, VH.isN_lst, VH.isN_dic, vi_int, vi_bool, vi_str, vi_tuple, vi_list, vi_dict, truD, flR, flRA, List.map_cons, List.map_nil, List.replicate, List.cons_append, List.nil_append, List.length_cons, List.length_nil, if_true, if_false, ite_true, ite_false, Bool.false_eq_true, decide_true, decide_false, beq_self_eq_true, Bool.not_true, Bool.not_false, and_self, and_true, true_and, and_false, false_and, Bool.or_true, Bool.true_or, Bool.or_false, Bool.false_or, Bool.and_true, Bool.and_false, Bool.true_and, Bool.false_and, ne_eq, not_false_eq_true, not_true_eq_false, reduceCtorEq, VH.eq_str, VH.ne_str, VH.eq_int, VH.ne_int, VH.add_int, VH.le_int, VH.lt_int, VH.gt_int, VH.ge_int, VH.ixt0, VH.ixt1, VH.ixt2, VH.ixl0, VH.ixl1, VH.tup0, VH.tup1, VH.tup2, VH.tup3, VH.lst0, VH.lst1, VH.lst2, VH.lst3, VH.len_list, VH.len_tuple, VH.items_list, VH.items_tuple], ?_⟩
  cases t with
  | any =>
    refine ⟨[SC, AT, some (.dic (fkO b)), A, B, some (.sh (tmD .any)), some (.sh (colD c))], ?_, _, _, rfl, nd, by omega⟩
    simp only [pr_run, out, oR, sSeq, sIf, eP, ePk, ePkT, eFr, frzS, frz1, shE, VH.shS_sh, VH.shS_lst, VH.shS_dic, VH.shS_scr, VH.shS_none, pVar, pC, pBin, pChain, pUn, pMap, pB, pTru, pNN, pNNo, pAnd, pOr, pNot, pAndV, pOrV, pNotV, pIf, pNil, pCons, pAll, pPart, pPart0, pSl, pM1, pSeq, pSeq2, pCall_pr, pGet2, pGet3, isDic, Pr.bind, Pr.lift, eAnd, eOr, eNot, eB, bnd, eBin, eUn, eSub, eC, VH.ret, lift, eVar, eSh, eFz, sSet, sRet, sPut, sAsg, sPar, sPar3, sFz, tgN, tgT, tgSeq, eAll, eCons, eNil, eIf, sDo, sApp, sExt, sNext, oLst, oAdd, oIf, oList, oDic0, eMov, eSl, ePart, eCallU, aNil, aVal, aBor, takeA, putA, sRaise, List.getElem?_cons_zero, List.getElem?_cons_succ, List.set_cons_zero, List.set_cons_succ, Nat.reduceSub, Nat.reduceAdd, Nat.reduceLT, Nat.reduceLeDiff, Option.bind, Option.map, O.fzb, O.fzbK, fz, blD, VH.isN_none, VH.isN_int, VH.isN_str, VH.isN_bool, VH.isN_tup, VH.isN_lst, VH.isN_dic, vi_int, vi_bool, vi_str, vi_tuple, vi_list, vi_dict, truD, flR, flRA, List.map_cons, List.map_nil, List.replicate, List.cons_append, List.nil_append, List.length_cons, List.length_nil, if_true, if_false, ite_true, ite_false, Bool.false_eq_true, decide_true, decide_false, beq_self_eq_true, Bool.not_true, Bool.not_false, and_self, and_true, true_and, and_false, false_and, Bool.or_true, Bool.true_or, Bool.or_false, Bool.false_or, Bool.and_true, Bool.and_false, Bool.true_and, Bool.false_and, ne_eq, not_false_eq_true, not_true_eq_false, reduceCtorEq, VH.eq_str, VH.ne_str, VH.eq_int, VH.ne_int, VH.add_int, VH.le_int, VH.lt_int, VH.gt_int, VH.ge_int, VH.ixt0, VH.ixt1, VH.ixt2, VH.ixl0, VH.ixl1, VH.tup0, VH.tup1, VH.tup2, VH.tup3, VH.lst0, VH.lst1, VH.lst2, VH.lst3, VH.len_list, VH.len_tuple, VH.items_list, VH.items_tuple, L1_kinds_of, tmD]
  | is w =>
    refine ⟨[SC, AT, some (.dic (fkO b)), A, B, some (.sh (tmD (.is w))), some (.sh (colD c))], ?_, _, _, rfl, nd, by omega⟩
    simp only [pr_run, out, oR, sSeq, sIf, eP, ePk, ePkT, eFr, frzS, frz1, shE, VH.shS_sh, VH.shS_lst, VH.shS_dic, VH.shS_scr, VH.shS_none, pVar, pC, pBin, pChain, pUn, pMap, pB, pTru, pNN, pNNo, pAnd, pOr, pNot, pAndV, pOrV, pNotV, pIf, pNil, pCons, pAll, pPart, pPart0, pSl, pM1, pSeq, pSeq2, pCall_pr, pGet2, pGet3, isDic, Pr.bind, Pr.lift, eAnd, eOr, eNot, eB, bnd, eBin, eUn, eSub, eC, VH.ret, lift, eVar, eSh, eFz, sSet, sRet, sPut, sAsg, sPar, sPar3, sFz, tgN, tgT, tgSeq, eAll, eCons, eNil, eIf, sDo, sApp, sExt, sNext, oLst, oAdd, oIf, oList, oDic0, eMov, eSl, ePart, eCallU, aNil, aVal, aBor, takeA, putA, sRaise, List.getElem?_cons_zero, List.getElem?_cons_succ, List.set_cons_zero, List.set_cons_succ, Nat.reduceSub, Nat.reduceAdd, Nat.reduceLT, Nat.reduceLeDiff, Option.bind, Option.map, O.fzb, O.fzbK, fz, blD, VH.isN_none, VH.isN_int, VH.isN_str, VH.isN_bool, VH.isN_tup, VH.isN_lst, VH.isN_dic, vi_int, vi_bool, vi_str, vi_tuple, vi_list, vi_dict, truD, flR, flRA, List.map_cons, List.map_nil, List.replicate, List.cons_append, List.nil_append, List.length_cons, List.length_nil, if_true, if_false, ite_true, ite_false, Bool.false_eq_true, decide_true, decide_false, beq_self_eq_true, Bool.not_true, Bool.not_false, and_self, and_true, true_and, and_false, false_and, Bool.or_true, Bool.true_or, Bool.or_false, Bool.false_or, Bool.and_true, Bool.and_false, Bool.true_and, Bool.false_and, ne_eq, not_false_eq_true, not_true_eq_false, reduceCtorEq, VH.eq_str, VH.ne_str, VH.eq_int, VH.ne_int, VH.add_int, VH.le_int, VH.lt_int, VH.gt_int, VH.ge_int, VH.ixt0, VH.ixt1, VH.ixt2, VH.ixl0, VH.ixl1, VH.tup0, VH.tup1, VH.tup2, VH.tup3, VH.lst0, VH.lst1, VH.lst2, VH.lst3, VH.len_list, VH.len_tuple, VH.items_list, VH.items_tuple, L1_kinds_of, tmD, is_ne_var]
  | var x =>
    have hg : get3 (.dict (fkD b)) (.str x) (.str (kindS c.int)) = some (((b.lookup x).map fun k => PyData.str (kindS k)).getD (.str (kindS c.int))) := by
      unfold get3
      simp only [kD_inr, Option.map_some, look_fk]
    cases hx : b.lookup x with
    | some k =>
      rw [hx] at hg
      simp only [Option.map_some, Option.getD_some] at hg
      have hk := kindS_eq k c.int
      by_cases hc : k = c.int
      · have hs : kstep b (.var x, c) = .ok b := by simp only [kstep, hx, if_pos hc]
        rw [hs]
        subst hc
        refine ⟨[SC, AT, some (.dic (fkO b)), A, B, some (.sh (tmD (.var x))), some (.sh (colD c))], ?_, _, _, rfl, nd, by omega⟩
        simp only [pr_run, out, oR, sSeq, sIf, eP, ePk, ePkT, eFr, frzS, frz1, shE, VH.shS_sh, VH.shS_lst, VH.shS_dic, VH.shS_scr, VH.shS_none, pVar, pC, pBin, pChain, pUn, pMap, pB, pTru, pNN, pNNo, pAnd, pOr, pNot, pAndV, pOrV, pNotV, pIf, pNil, pCons, pAll, pPart, pPart0, pSl, pM1, pSeq, pSeq2, pCall_pr, pGet2, pGet3, isDic, Pr.bind, Pr.lift, eAnd, eOr, eNot, eB, bnd, eBin, eUn, eSub, eC, VH.ret, lift, eVar, eSh, eFz, sSet, sRet, sPut, sAsg, sPar, sPar3, sFz, tgN, tgT, tgSeq, eAll, eCons, eNil, eIf, sDo, sApp, sExt, sNext, oLst, oAdd, oIf, oList, oDic0, eMov, eSl, ePart, eCallU, aNil, aVal, aBor, takeA, putA, sRaise, List.getElem?_cons_zero, List.getElem?_cons_succ, List.set_cons_zero, List.set_cons_succ, Nat.reduceSub, Nat.reduceAdd, Nat.reduceLT, Nat.reduceLeDiff, Option.bind, Option.map, O.fzb, O.fzbK, fz, blD, VH.isN_none, VH.isN_int, VH.isN_str, VH.isN_bool, VH.isN_tup, VH.isN_lst, VH.isN_dic, vi_int, vi_bool, vi_str, vi_tuple, vi_list, vi_dict, truD, flR, flRA, List.map_cons, List.map_nil, List.replicate, List.cons_append, List.nil_append, List.length_cons, List.length_nil, if_true, if_false, ite_true, ite_false, Bool.false_eq_true, decide_true, decide_false, beq_self_eq_true, Bool.not_true, Bool.not_false, and_self, and_true, true_and, and_false, false_and, Bool.or_true, Bool.true_or, Bool.or_false, Bool.false_or, Bool.and_true, Bool.and_false, Bool.true_and, Bool.false_and, ne_eq, not_false_eq_true, not_true_eq_false, reduceCtorEq, VH.eq_str, VH.ne_str, VH.eq_int, VH.ne_int, VH.add_int, VH.le_int, VH.lt_int, VH.gt_int, VH.ge_int, VH.ixt0, VH.ixt1, VH.ixt2, VH.ixl0, VH.ixl1, VH.tup0, VH.tup1, VH.tup2, VH.tup3, VH.lst0, VH.lst1, VH.lst2, VH.lst3, VH.len_list, VH.len_tuple, VH.items_list, VH.items_tuple, L1_kinds_of, tmD, colD, fzb_fk, fz_fk, hg, hlen, kD_inr, put_fk_old hx nd]
      · have hs : kstep b (.var x, c) = .error (.ret (.sh .none)) := by simp only [kstep, hx, if_neg hc]
        rw [hs]
        refine ⟨[SC, AT, some (.dic (fkO b)), A, B, some (.sh (tmD (.var x))), some (.sh (colD c))], ?_, trivial⟩
        have hc2 : (k == c.int) = false := by simpa using hc
        rw [hc2] at hk
        simp only [pr_run, out, oR, sSeq, sIf, eP, ePk, ePkT, eFr, frzS, frz1, shE, VH.shS_sh, VH.shS_lst, VH.shS_dic, VH.shS_scr, VH.shS_none, pVar, pC, pBin, pChain, pUn, pMap, pB, pTru, pNN, pNNo, pAnd, pOr, pNot, pAndV, pOrV, pNotV, pIf, pNil, pCons, pAll, pPart, pPart0, pSl, pM1, pSeq, pSeq2, pCall_pr, pGet2, pGet3, isDic, Pr.bind, Pr.lift, eAnd, eOr, eNot, eB, bnd, eBin, eUn, eSub, eC, VH.ret, lift, eVar, eSh, eFz, sSet, sRet, sPut, sAsg, sPar, sPar3, sFz, tgN, tgT, tgSeq, eAll, eCons, eNil, eIf, sDo, sApp, sExt, sNext, oLst, oAdd, oIf, oList, oDic0, eMov, eSl, ePart, eCallU, aNil, aVal, aBor, takeA, putA, sRaise, List.getElem?_cons_zero, List.getElem?_cons_succ, List.set_cons_zero, List.set_cons_succ, Nat.reduceSub, Nat.reduceAdd, Nat.reduceLT, Nat.reduceLeDiff, Option.bind, Option.map, O.fzb, O.fzbK, fz, blD, VH.isN_none, VH.isN_int, VH.isN_str, VH.isN_bool, VH.isN_tup, VH.isN_lst, VH.isN_dic, vi_int, vi_bool, vi_str, vi_tuple, vi_list, vi_dict, truD, flR, flRA, List.map_cons, List.map_nil, List.replicate, List.cons_append, List.nil_append, List.length_cons, List.length_nil, if_true, if_false, ite_true, ite_false, Bool.false_eq_true, decide_true, decide_false, beq_self_eq_true, Bool.not_true, Bool.not_false, and_self, and_true, true_and, and_false, false_and, Bool.or_true, Bool.true_or, Bool.or_false, Bool.false_or, Bool.and_true, Bool.and_false, Bool.true_and, Bool.false_and, ne_eq, not_false_eq_true, not_true_eq_false, reduceCtorEq, VH.eq_str, VH.ne_str, VH.eq_int, VH.ne_int, VH.add_int, VH.le_int, VH.lt_int, VH.gt_int, VH.ge_int, VH.ixt0, VH.ixt1, VH.ixt2, VH.ixl0, VH.ixl1, VH.tup0, VH.tup1, VH.tup2, VH.tup3, VH.lst0, VH.lst1, VH.lst2, VH.lst3, VH.len_list, VH.len_tuple, VH.items_list, VH.items_tuple, L1_kinds_of, tmD, colD, fzb_fk, fz_fk, hg, hk]
    | none =>
      have hs : kstep b (.var x, c) = .ok (b ++ [(x, c.int)]) := by simp only [kstep, hx]
      rw [hs]
      rw [hx] at hg
      simp only [Option.map_none, Option.getD_none] at hg
      refine ⟨[SC, AT, some (.dic (fkO (b ++ [(x, c.int)]))), A, B, some (.sh (tmD (.var x))), some (.sh (colD c))], ?_, _, _, rfl, nd_snoc nd hx, by simp; omega⟩
      simp only [pr_run, out, oR, sSeq, sIf, eP, ePk, ePkT, eFr, frzS, frz1, shE, VH.shS_sh, VH.shS_lst, VH.shS_dic, VH.shS_scr, VH.shS_none, pVar, pC, pBin, pChain, pUn, pMap, pB, pTru, pNN, pNNo, pAnd, pOr, pNot, pAndV, pOrV, pNotV, pIf, pNil, pCons, pAll, pPart, pPart0, pSl, pM1, pSeq, pSeq2, pCall_pr, pGet2, pGet3, isDic, Pr.bind, Pr.lift, eAnd, eOr, eNot, eB, bnd, eBin, eUn, eSub, eC, VH.ret, lift, eVar, eSh, eFz, sSet, sRet, sPut, sAsg, sPar, sPar3, sFz, tgN, tgT, tgSeq, eAll, eCons, eNil, eIf, sDo, sApp, sExt, sNext, oLst, oAdd, oIf, oList, oDic0, eMov, eSl, ePart, eCallU, aNil, aVal, aBor, takeA, putA, sRaise, List.getElem?_cons_zero, List.getElem?_cons_succ, List.set_cons_zero, List.set_cons_succ, Nat.reduceSub, Nat.reduceAdd, Nat.reduceLT, Nat.reduceLeDiff, Option.bind, Option.map, O.fzb, O.fzbK, fz, blD, VH.isN_none, VH.isN_int, VH.isN_str, VH.isN_bool, VH.isN_tup, VH.isN_lst, VH.isN_dic, vi_int, vi_bool, vi_str, vi_tuple, vi_list, vi_dict, truD, flR, flRA, List.map_cons, List.map_nil, List.replicate, List.cons_append, List.nil_append, List.length_cons, List.length_nil, if_true, if_false, ite_true, ite_false, Bool.false_eq_true, decide_true, decide_false, beq_self_eq_true, Bool.not_true, Bool.not_false, and_self, and_true, true_and, and_false, false_and, Bool.or_true, Bool.true_or, Bool.or_false, Bool.false_or, Bool.and_true, Bool.and_false, Bool.true_and, Bool.false_and, ne_eq, not_false_eq_true, not_true_eq_false, reduceCtorEq, VH.eq_str, VH.ne_str, VH.eq_int, VH.ne_int, VH.add_int, VH.le_int, VH.lt_int, VH.gt_int, VH.ge_int, VH.ixt0, VH.ixt1, VH.ixt2, VH.ixl0, VH.ixl1, VH.tup0, VH.tup1, VH.tup2, VH.tup3, VH.lst0, VH.lst1, VH.lst2, VH.lst3, VH.len_list, VH.len_tuple, VH.items_list, VH.items_tuple, L1_kinds_of, tmD, colD, fzb_fk, fz_fk, hg, hlen, kD_inr, put_fk_new hx]
def total (as : List Atom) : Nat := (as.map fun a => a.2.length).sum
theorem L2_kinds (s : Sch) (AT : Option O) (N : Nat) (hN : N ≤ 1000) (b : Fk) (a : Atom) (r : List Atom) (env : En) (ha : ∃ cs, s.lookup a.1 = some cs) (h : ∃ A B u v, env = [some (.sh (scD s)), AT, some (.dic (fkO b)), A, B, u, v] ∧ Nd b ∧ b.length + total (a :: r) ≤ N) :
    ∃ env1, tgT 2 [tgN 3, tgN 4] (atD a) env = some env1 ∧ Got (L2_kinds_of env1) (katom s b a) (fun f env => ∃ A B u v, env = [some (.sh (scD s)), AT, some (.dic (fkO f)), A, B, u, v] ∧ Nd f ∧ f.length + total r ≤ N) (fun _ => True) := by
  obtain ⟨A, B, u, v, rfl, nd, hl⟩ := h
  obtain ⟨t, ts⟩ := a
  obtain ⟨cs, hc⟩ := ha
  dsimp only at hc
  have hl2 : b.length + ts.length + total r ≤ N := by
    unfold total at hl ⊢
    rw [List.map_cons, List.sum_cons] at hl
    dsimp only at hl
    omega
  refine ⟨[some (.sh (scD s)), AT, some (.dic (fkO b)), some (.sh (.str t)), some (.sh (.tuple (ts.map tmD))), u, v], by simp only [pr_run, out, oR, sSeq, sIf, eP, ePk, ePkT, eFr, frzS, frz1, shE, VH.shS_sh, VH.shS_lst, VH.shS_dic, VH.shS_scr, VH.shS_none, pVar, pC, pBin, pChain, pUn, pMap, pB, pTru, pNN, pNNo, pAnd, pOr, pNot, pAndV, pOrV, pNotV, pIf, pNil, pCons, pAll, pPart, pPart0, pSl, pM1, pSeq, pSeq2, pCall_pr, pGet2, pGet3, isDic, Pr.bind, Pr.lift, eAnd, eOr, eNot, eB, bnd, eBin, eUn, eSub, eC, VH.ret, lift, eVar, eSh, eFz, sSet, sRet, sPut, sAsg, sPar, sPar3, sFz, tgN, tgT, tgSeq, eAll, eCons, eNil, eIf, sDo, sApp, sExt, sNext, oLst, oAdd, oIf, oList, oDic0, eMov, eSl, ePart, eCallU, aNil, aVal, aBor, takeA, putA, sRaise, List.getElem?_cons_zero, List.getElem?_cons_succ, List.set_cons_zero, List.set_cons_succ, Nat.reduceSub, Nat.reduceAdd, Nat.reduceLT, Nat.reduceLeDiff, Option.bind, Option.map, O.fzb, O.fzbK, fz, blD, VH.isN_none, VH.isN_int, VH.isN_str, VH.isN_bool, VH.isN_tup, VH.isN_lst, VH.isN_dic, vi_int, vi_bool, vi_str, vi_tuple, vi_list, vi_dict, truD, flR, flRA, List.map_cons, List.map_nil, List.replicate, List.cons_append, List.nil_append, List.length_cons, List.length_nil, if_true, if_false, ite_true, ite_false, Bool.false_eq_true, decide_true, decide_false, beq_self_eq_true, Bool.not_true, Bool.not_false, and_self, and_true, true_and, and_false, false_and, Bool.or_true, Bool.true_or, Bool.or_false, Bool.false_or, Bool.and_true, Bool.and_false, Bool.true_and, Bool.false_and, ne_eq, not_false_eq_true, not_true_eq_false, reduceCtorEq, VH.eq_str, VH.ne_str, VH.eq_int, VH.ne_int, VH.add_int, VH.le_int, VH.lt_int, VH.gt_int, VH.ge_int, VH.ixt0, VH.ixt1, VH.ixt2, VH.ixl0, VH.ixl1, VH.tup0, VH.tup1, VH.tup2, VH.tup3, VH.lst0, VH.lst1, VH.lst2, VH.lst3, VH.len_list, VH.len_tuple, VH.items_list, VH.items_tuple, atD], ?_⟩
  have e1 := idx_sc hc
  have e2 := idx_tb cs
  have hf : L2_kinds_of [some (.sh (scD s)), AT, some (.dic (fkO b)), some (.sh (.str t)), some (.sh (.tuple (ts.map tmD))), u, v] = loopS (tgT 2 [tgN 5, tgN 6]) L1_kinds_of ((ts.zip cs).map fun p => .tuple [tmD p.1, colD p.2]) [some (.sh (scD s)), AT, some (.dic (fkO b)), some (.sh (.str t)), some (.sh (.tuple (ts.map tmD))), u, v] :=
    for_eq (by simp only [pr_run, out, oR, sSeq, sIf, eP, ePk, ePkT, eFr, frzS, frz1, shE, VH.shS_sh, VH.shS_lst, VH.shS_dic, VH.shS_scr, VH.shS_none, pVar, pC, pBin, pChain, pUn, pMap, pB, pTru, pNN, pNNo, pAnd, pOr, pNot, pAndV, pOrV, pNotV, pIf, pNil, pCons, pAll, pPart, pPart0, pSl, pM1, pSeq, pSeq2, pCall_pr, pGet2, pGet3, isDic, Pr.bind, Pr.lift, eAnd, eOr, eNot, eB, bnd, eBin, eUn, eSub, eC, VH.ret, lift, eVar, eSh, eFz, sSet, sRet, sPut, sAsg, sPar, sPar3, sFz, tgN, tgT, tgSeq, eAll, eCons, eNil, eIf, sDo, sApp, sExt, sNext, oLst, oAdd, oIf, oList, oDic0, eMov, eSl, ePart, eCallU, aNil, aVal, aBor, takeA, putA, sRaise, List.getElem?_cons_zero, List.getElem?_cons_succ, List.set_cons_zero, List.set_cons_succ, Nat.reduceSub, Nat.reduceAdd, Nat.reduceLT, Nat.reduceLeDiff, Option.bind, Option.map, O.fzb, O.fzbK, fz, blD, VH.isN_none, VH.isN_int, VH.isN_str, VH.isN_bool, VH.isN_tup, VH.isN_lst, VH.isN_dic, vi_int, vi_bool, vi_str, vi_tuple, vi_list, vi_dict, truD, flR, flRA, List.map_cons, List.map_nil, List.replicate, List.cons_append, List.nil_append, List.length_cons, List.length_nil, if_true, if_false, ite_true, ite_false, Bool.false_eq_true, decide_true, decide_false, beq_self_eq_true, Bool.not_true, Bool.not_false, and_self, and_true, true_and, and_false, false_and, Bool.or_true, Bool.true_or, Bool.or_false, Bool.false_or, Bool.and_true, Bool.and_false, Bool.true_and, Bool.false_and, ne_eq, not_false_eq_true, not_true_eq_false, reduceCtorEq, VH.eq_str, VH.ne_str, VH.eq_int, VH.ne_int, VH.add_int, VH.le_int, VH.lt_int, VH.gt_int, VH.ge_int, VH.ixt0, VH.ixt1, VH.ixt2, VH.ixl0, VH.ixl1, VH.tup0, VH.tup1, VH.tup2, VH.tup3, VH.lst0, VH.lst1, VH.lst2, VH.lst3, VH.len_list, VH.len_tuple, VH.items_list, VH.items_tuple, e1, e2, zip_tl, zip_maps])
  rw [hf]
  have hcol : colsOf s t = cs := by unfold colsOf; rw [hc]; rfl
  unfold katom
  rw [hcol]
  have hz : (ts.zip cs).length ≤ ts.length := by rw [List.length_zip]; omega
  have g := Got.loopL (e := fun p : Term × Col => PyData.tuple [tmD p.1, colD p.2]) (tg := tgT 2 [tgN 5, tgN 6]) (body := L1_kinds_of) (P := fun _ => True) (R := fun _ => True)
    (S := fun rest f env => ∃ u v, env = [some (.sh (scD s)), AT, some (.dic (fkO f)), some (.sh (.str t)), some (.sh (.tuple (ts.map tmD))), u, v] ∧ Nd f ∧ f.length + rest.length ≤ N - total r) (step := kstep)
    (fun b p r' env _ h => L1_kinds _ _ _ _ (N - total r) (by omega) b p r' env h) (ts.zip cs) b _ (fun _ _ => trivial) ⟨u, v, rfl, nd, by omega⟩
  have imp : ∀ (m : Except Ex Fk) (r0 : Rs Fl), Got r0 m (fun f env => ∃ u v, env = [some (.sh (scD s)), AT, some (.dic (fkO f)), some (.sh (.str t)), some (.sh (.tuple (ts.map tmD))), u, v] ∧ Nd f ∧ f.length + ([] : List (Term × Col)).length ≤ N - total r) (fun _ => True) →
      Got r0 m (fun f env => ∃ A B u v, env = [some (.sh (scD s)), AT, some (.dic (fkO f)), A, B, u, v] ∧ Nd f ∧ f.length + total r ≤ N) (fun _ => True) := by
    intro m r0 h
    cases m with
    | ok f =>
      obtain ⟨e, h1, u, v, h2, h3, h4⟩ := h
      exact ⟨e, h1, _, _, u, v, h2, h3, by simp at h4; omega⟩
    | error x => cases x with
      | ret o => exact h
      | exc x => exact h
  exact imp _ _ g
def kindsR (s : Sch) (as : List Atom) : Option Fk := match kindsOf s as with
  | .ok f => some f
  | .error _ => none
theorem kindsOf_err {s : Sch} {as : List Atom} {e : Ex} (h : kindsOf s as = .error e) : e = .ret (.sh .none) :=
  foldlM_err (P := fun e => e = .ret (.sh .none)) (fun b a e q => foldlM_err (P := fun e => e = .ret (.sh .none)) (fun b p e q => by
    unfold kstep at q
    split at q
    · split at q
      · split at q
        · cases q
        · cases q; rfl
      · cases q
    · cases q) _ _ _ q) _ _ _ h
def optD : Option Fk → D
  | some f => .dict (fkD f)
  | none => .none
theorem p_kinds_of {s : Sch} {as : List Atom} (ha : ∀ a ∈ as, ∃ cs, s.lookup a.1 = some cs) (hl : total as ≤ 1000) : pr (r_kinds_of [.sh (scD s), .sh (.tuple (as.map atD))]) = .ok (optD (kindsR s as)) := by
  unfold r_kinds_of b_kinds_of
  have g := Got.loopL (e := atD) (tg := tgT 2 [tgN 3, tgN 4]) (body := L2_kinds_of) (P := fun a => ∃ cs, s.lookup a.1 = some cs) (R := fun _ => True)
    (S := fun rest f env => ∃ A B u v, env = [some (.sh (scD s)), some (.sh (.tuple (as.map atD))), some (.dic (fkO f)), A, B, u, v] ∧ Nd f ∧ f.length + total rest ≤ 1000) (step := katom s)
    (fun b a r env ha h => L2_kinds s _ 1000 (by omega) b a r env ha h) as [] [some (.sh (scD s)), some (.sh (.tuple (as.map atD))), some (.dic (fkO [])), none, none, none, none] ha ⟨none, none, none, none, rfl, List.nodup_nil, by simpa using hl⟩
  have hf : sFor (eP (pSeq itemsD (pVar 1))) (tgT 2 [tgN 3, tgN 4]) L2_kinds_of [some (.sh (scD s)), some (.sh (.tuple (as.map atD))), some (.dic []), none, none, none, none] = loopS (tgT 2 [tgN 3, tgN 4]) L2_kinds_of (as.map atD) [some (.sh (scD s)), some (.sh (.tuple (as.map atD))), some (.dic []), none, none, none, none] :=
    for_eq (by simp only [pr_run, out, oR, sSeq, sIf, eP, ePk, ePkT, eFr, frzS, frz1, shE, VH.shS_sh, VH.shS_lst, VH.shS_dic, VH.shS_scr, VH.shS_none, pVar, pC, pBin, pChain, pUn, pMap, pB, pTru, pNN, pNNo, pAnd, pOr, pNot, pAndV, pOrV, pNotV, pIf, pNil, pCons, pAll, pPart, pPart0, pSl, pM1, pSeq, pSeq2, pCall_pr, pGet2, pGet3, isDic, Pr.bind, Pr.lift, eAnd, eOr, eNot, eB, bnd, eBin, eUn, eSub, eC, VH.ret, lift, eVar, eSh, eFz, sSet, sRet, sPut, sAsg, sPar, sPar3, sFz, tgN, tgT, tgSeq, eAll, eCons, eNil, eIf, sDo, sApp, sExt, sNext, oLst, oAdd, oIf, oList, oDic0, eMov, eSl, ePart, eCallU, aNil, aVal, aBor, takeA, putA, sRaise, List.getElem?_cons_zero, List.getElem?_cons_succ, List.set_cons_zero, List.set_cons_succ, Nat.reduceSub, Nat.reduceAdd, Nat.reduceLT, Nat.reduceLeDiff, Option.bind, Option.map, O.fzb, O.fzbK, fz, blD, VH.isN_none, VH.isN_int, VH.isN_str, VH.isN_bool, VH.isN_tup, VH.isN_lst, VH.isN_dic, vi_int, vi_bool, vi_str, vi_tuple, vi_list, vi_dict, truD, flR, flRA, List.map_cons, List.map_nil, List.replicate, List.cons_append, List.nil_append, List.length_cons, List.length_nil, if_true, if_false, ite_true, ite_false, Bool.false_eq_true, decide_true, decide_false, beq_self_eq_true, Bool.not_true, Bool.not_false, and_self, and_true, true_and, and_false, false_and, Bool.or_true, Bool.true_or, Bool.or_false, Bool.false_or, Bool.and_true, Bool.and_false, Bool.true_and, Bool.false_and, ne_eq, not_false_eq_true, not_true_eq_false, reduceCtorEq, VH.eq_str, VH.ne_str, VH.eq_int, VH.ne_int, VH.add_int, VH.le_int, VH.lt_int, VH.gt_int, VH.ge_int, VH.ixt0, VH.ixt1, VH.ixt2, VH.ixl0, VH.ixl1, VH.tup0, VH.tup1, VH.tup2, VH.tup3, VH.lst0, VH.lst1, VH.lst2, VH.lst3, VH.len_list, VH.len_tuple, VH.items_list, VH.items_tuple])
  rw [show (O.dic (fkO [])) = O.dic [] from rfl, ← hf] at g
  change Got _ (kindsOf s as) _ _ at g
  unfold kindsR
  cases hk : kindsOf s as with
  | ok f =>
    rw [hk] at g
    obtain ⟨e, h1, A, B, u, v, rfl, _, _⟩ := g
    simp only [pr_run, out, oR, sSeq, sIf, eP, ePk, ePkT, eFr, frzS, frz1, shE, VH.shS_sh, VH.shS_lst, VH.shS_dic, VH.shS_scr, VH.shS_none, pVar, pC, pBin, pChain, pUn, pMap, pB, pTru, pNN, pNNo, pAnd, pOr, pNot, pAndV, pOrV, pNotV, pIf, pNil, pCons, pAll, pPart, pPart0, pSl, pM1, pSeq, pSeq2, pCall_pr, pGet2, pGet3, isDic, Pr.bind, Pr.lift, eAnd, eOr, eNot, eB, bnd, eBin, eUn, eSub, eC, VH.ret, lift, eVar, eSh, eFz, sSet, sRet, sPut, sAsg, sPar, sPar3, sFz, tgN, tgT, tgSeq, eAll, eCons, eNil, eIf, sDo, sApp, sExt, sNext, oLst, oAdd, oIf, oList, oDic0, eMov, eSl, ePart, eCallU, aNil, aVal, aBor, takeA, putA, sRaise, List.getElem?_cons_zero, List.getElem?_cons_succ, List.set_cons_zero, List.set_cons_succ, Nat.reduceSub, Nat.reduceAdd, Nat.reduceLT, Nat.reduceLeDiff, Option.bind, Option.map, O.fzb, O.fzbK, fz, blD, VH.isN_none, VH.isN_int, VH.isN_str, VH.isN_bool, VH.isN_tup, VH.isN_lst, VH.isN_dic, vi_int, vi_bool, vi_str, vi_tuple, vi_list, vi_dict, truD, flR, flRA, List.map_cons, List.map_nil, List.replicate, List.cons_append, List.nil_append, List.length_cons, List.length_nil, if_true, if_false, ite_true, ite_false, Bool.false_eq_true, decide_true, decide_false, beq_self_eq_true, Bool.not_true, Bool.not_false, and_self, and_true, true_and, and_false, false_and, Bool.or_true, Bool.true_or, Bool.or_false, Bool.false_or, Bool.and_true, Bool.and_false, Bool.true_and, Bool.false_and, ne_eq, not_false_eq_true, not_true_eq_false, reduceCtorEq, VH.eq_str, VH.ne_str, VH.eq_int, VH.ne_int, VH.add_int, VH.le_int, VH.lt_int, VH.gt_int, VH.ge_int, VH.ixt0, VH.ixt1, VH.ixt2, VH.ixl0, VH.ixl1, VH.tup0, VH.tup1, VH.tup2, VH.tup3, VH.lst0, VH.lst1, VH.lst2, VH.lst3, VH.len_list, VH.len_tuple, VH.items_list, VH.items_tuple, h1, fzb_fk, fz_fk, optD]
  | error x =>
    rw [hk] at g
    cases kindsOf_err hk
    obtain ⟨e, h1, _⟩ := g
    simp only [pr_run, out, oR, sSeq, sIf, eP, ePk, ePkT, eFr, frzS, frz1, shE, VH.shS_sh, VH.shS_lst, VH.shS_dic, VH.shS_scr, VH.shS_none, pVar, pC, pBin, pChain, pUn, pMap, pB, pTru, pNN, pNNo, pAnd, pOr, pNot, pAndV, pOrV, pNotV, pIf, pNil, pCons, pAll, pPart, pPart0, pSl, pM1, pSeq, pSeq2, pCall_pr, pGet2, pGet3, isDic, Pr.bind, Pr.lift, eAnd, eOr, eNot, eB, bnd, eBin, eUn, eSub, eC, VH.ret, lift, eVar, eSh, eFz, sSet, sRet, sPut, sAsg, sPar, sPar3, sFz, tgN, tgT, tgSeq, eAll, eCons, eNil, eIf, sDo, sApp, sExt, sNext, oLst, oAdd, oIf, oList, oDic0, eMov, eSl, ePart, eCallU, aNil, aVal, aBor, takeA, putA, sRaise, List.getElem?_cons_zero, List.getElem?_cons_succ, List.set_cons_zero, List.set_cons_succ, Nat.reduceSub, Nat.reduceAdd, Nat.reduceLT, Nat.reduceLeDiff, Option.bind, Option.map, O.fzb, O.fzbK, fz, blD, VH.isN_none, VH.isN_int, VH.isN_str, VH.isN_bool, VH.isN_tup, VH.isN_lst, VH.isN_dic, vi_int, vi_bool, vi_str, vi_tuple, vi_list, vi_dict, truD, flR, flRA, List.map_cons, List.map_nil, List.replicate, List.cons_append, List.nil_append, List.length_cons, List.length_nil, if_true, if_false, ite_true, ite_false, Bool.false_eq_true, decide_true, decide_false, beq_self_eq_true, Bool.not_true, Bool.not_false, and_self, and_true, true_and, and_false, false_and, Bool.or_true, Bool.true_or, Bool.or_false, Bool.false_or, Bool.and_true, Bool.and_false, Bool.true_and, Bool.false_and, ne_eq, not_false_eq_true, not_true_eq_false, reduceCtorEq, VH.eq_str, VH.ne_str, VH.eq_int, VH.ne_int, VH.add_int, VH.le_int, VH.lt_int, VH.gt_int, VH.ge_int, VH.ixt0, VH.ixt1, VH.ixt2, VH.ixl0, VH.ixl1, VH.tup0, VH.tup1, VH.tup2, VH.tup3, VH.lst0, VH.lst1, VH.lst2, VH.lst3, VH.len_list, VH.len_tuple, VH.items_list, VH.items_tuple, h1, optD]
end VC
set_option Elab.async false
set_option linter.all false
set_option maxRecDepth 100000
set_option maxHeartbeats 4000000
namespace VC
open PySem PySem.Spec PyProof.Rows L2 VH
def codeX (c : Str) : Xc := ⟨"QuestionError", [("code", .str c)]⟩
def tableOk (s : Sch) (a : Atom) : Bool := (s.lookup a.1).isSome
def atomOk (s : Sch) (a : Atom) : Bool := termsFit a.2 (colsOf s a.1)
def sizeBad (q : Qn) : Bool := !(decide (1 ≤ q.atoms.length) && decide (q.atoms.length ≤ 6)) || decide (4 < q.head.length)
def checkQ (s : Sch) (q : Qn) : Option Str :=
  if sizeBad q = true then some (Str.ofString "size") else
  if q.atoms.all (tableOk s) = true then
    if q.atoms.all (atomOk s) = true then
      match kindsR s q.atoms with
      | none => some (Str.ofString "kind")
      | some f => if (q.head.map fun x => (f.lookup x).isSome).all id = true then none else some (Str.ofString "head")
    else some (Str.ofString "terms")
  else some (Str.ofString "table")
def checkP (o : Option Str) : Pr D := match o with
  | none => .ok .none
  | some c => .exc (codeX c)
theorem in_sc (s : Sch) (t : Str) : inOp (.str t) (scD s) = some (.bool (s.lookup t).isSome) := by
  unfold inOp inB scD
  simp only [kD_inr, Option.map_some, lookup_sc]
  cases s.lookup t <;> rfl
theorem nin_sc (s : Sch) (t : Str) : ninOp (.str t) (scD s) = some (.bool (!(s.lookup t).isSome)) := by
  unfold ninOp inB scD
  simp only [kD_inr, Option.map_some, lookup_sc]
  cases s.lookup t <;> rfl
theorem in_fk (f : Fk) (t : Str) : inOp (.str t) (.dict (fkD f)) = some (.bool (f.lookup t).isSome) := by
  unfold inOp inB
  simp only [kD_inr, Option.map_some, look_fk]
  cases f.lookup t <;> rfl
theorem cq_table (s : Sch) (Q HD A B C G I : Option O) (as : List Atom) (h : as.all (tableOk s) = b) (run1 run2 : List O → Rs O) : ∃ u v, sFor (eP (pSeq itemsD (pVar 3))) (tgT 2 [tgN 4, tgN 5]) (L1_check_question run1 run2) [some (.sh (scD s)), Q, HD, some (.sh (.tuple (as.map atD))), A, B, C, G, I] =
    if b = true then .ok .nx [some (.sh (scD s)), Q, HD, some (.sh (.tuple (as.map atD))), u, v, C, G, I] else .exc (codeX (Str.ofString "table")) [some (.sh (scD s)), Q, HD, some (.sh (.tuple (as.map atD))), u, v, C, G, I] := by
  have hl := Got.loop (e := atD) (tg := tgT 2 [tgN 4, tgN 5]) (body := L1_check_question run1 run2) (β := Unit) (step := fun _ a => if tableOk s a = true then .ok () else .error (.exc (codeX (Str.ofString "table"))))
    (S := fun _ env => ∃ u v, env = [some (.sh (scD s)), Q, HD, some (.sh (.tuple (as.map atD))), u, v, C, G, I]) (R := fun env => ∃ u v, env = [some (.sh (scD s)), Q, HD, some (.sh (.tuple (as.map atD))), u, v, C, G, I]) (P := fun _ => True) (fun _ a env _ ⟨u, v, he⟩ => by
      subst he
      obtain ⟨t, ts⟩ := a
      refine ⟨[some (.sh (scD s)), Q, HD, some (.sh (.tuple (as.map atD))), some (.sh (.str t)), some (.sh (.tuple (ts.map tmD))), C, G, I], by simp only [pr_run, out, oR, sSeq, sIf, eP, ePk, ePkT, eFr, frzS, frz1, shE, VH.shS_sh, VH.shS_lst, VH.shS_dic, VH.shS_scr, VH.shS_none, pVar, pC, pBin, pChain, pUn, pMap, pB, pTru, pNN, pNNo, pAnd, pOr, pNot, pAndV, pOrV, pNotV, pIf, pNil, pCons, pAll, pPart, pPart0, pSl, pM1, pSeq, pSeq2, pCall_pr, pGet2, pGet3, isDic, Pr.bind, Pr.lift, eAnd, eOr, eNot, eB, bnd, eBin, eUn, eSub, eC, VH.ret, lift, eVar, eSh, eFz, sSet, sRet, sPut, sAsg, sPar, sPar3, sFz, tgN, tgT, tgSeq, eAll, eCons, eNil, eIf, sDo, sApp, sExt, sNext, oLst, oAdd, oIf, oList, oDic0, eMov, eSl, ePart, eCallU, aNil, aVal, aBor, takeA, putA, sRaise, List.getElem?_cons_zero, List.getElem?_cons_succ, List.set_cons_zero, List.set_cons_succ, Nat.reduceSub, Nat.reduceAdd, Nat.reduceLT, Nat.reduceLeDiff, Option.bind, Option.map, O.fzb, O.fzbK, fz, blD, VH.isN_none, VH.isN_int, VH.isN_str, VH.isN_bool, VH.isN_tup, VH.isN_lst, VH.isN_dic, vi_int, vi_bool, vi_str, vi_tuple, vi_list, vi_dict, truD, flR, flRA, List.map_cons, List.map_nil, List.replicate, List.cons_append, List.nil_append, List.length_cons, List.length_nil, if_true, if_false, ite_true, ite_false, Bool.false_eq_true, decide_true, decide_false, beq_self_eq_true, Bool.not_true, Bool.not_false, and_self, and_true, true_and, and_false, false_and, Bool.or_true, Bool.true_or, Bool.or_false, Bool.false_or, Bool.and_true, Bool.and_false, Bool.true_and, Bool.false_and, ne_eq, not_false_eq_true, not_true_eq_false, reduceCtorEq, VH.eq_str, VH.ne_str, VH.eq_int, VH.ne_int, VH.add_int, VH.le_int, VH.lt_int, VH.gt_int, VH.ge_int, VH.ixt0, VH.ixt1, VH.ixt2, VH.ixl0, VH.ixl1, VH.tup0, VH.tup1, VH.tup2, VH.tup3, VH.lst0, VH.lst1, VH.lst2, VH.lst3, VH.len_list, VH.len_tuple, VH.items_list, VH.items_tuple, atD], ?_⟩
      have e := nin_sc s t
      cases hc : tableOk s (t, ts) with
      | true =>
        have h2 : (s.lookup t).isSome = true := hc
        rw [h2] at e
        exact ⟨[some (.sh (scD s)), Q, HD, some (.sh (.tuple (as.map atD))), some (.sh (.str t)), some (.sh (.tuple (ts.map tmD))), C, G, I], by simp only [pr_run, out, oR, sSeq, sIf, eP, ePk, ePkT, eFr, frzS, frz1, shE, VH.shS_sh, VH.shS_lst, VH.shS_dic, VH.shS_scr, VH.shS_none, pVar, pC, pBin, pChain, pUn, pMap, pB, pTru, pNN, pNNo, pAnd, pOr, pNot, pAndV, pOrV, pNotV, pIf, pNil, pCons, pAll, pPart, pPart0, pSl, pM1, pSeq, pSeq2, pCall_pr, pGet2, pGet3, isDic, Pr.bind, Pr.lift, eAnd, eOr, eNot, eB, bnd, eBin, eUn, eSub, eC, VH.ret, lift, eVar, eSh, eFz, sSet, sRet, sPut, sAsg, sPar, sPar3, sFz, tgN, tgT, tgSeq, eAll, eCons, eNil, eIf, sDo, sApp, sExt, sNext, oLst, oAdd, oIf, oList, oDic0, eMov, eSl, ePart, eCallU, aNil, aVal, aBor, takeA, putA, sRaise, List.getElem?_cons_zero, List.getElem?_cons_succ, List.set_cons_zero, List.set_cons_succ, Nat.reduceSub, Nat.reduceAdd, Nat.reduceLT, Nat.reduceLeDiff, Option.bind, Option.map, O.fzb, O.fzbK, fz, blD, VH.isN_none, VH.isN_int, VH.isN_str, VH.isN_bool, VH.isN_tup, VH.isN_lst, VH.isN_dic, vi_int, vi_bool, vi_str, vi_tuple, vi_list, vi_dict, truD, flR, flRA, List.map_cons, List.map_nil, List.replicate, List.cons_append, List.nil_append, List.length_cons, List.length_nil, if_true, if_false, ite_true, ite_false, Bool.false_eq_true, decide_true, decide_false, beq_self_eq_true, Bool.not_true, Bool.not_false, and_self, and_true, true_and, and_false, false_and, Bool.or_true, Bool.true_or, Bool.or_false, Bool.false_or, Bool.and_true, Bool.and_false, Bool.true_and, Bool.false_and, ne_eq, not_false_eq_true, not_true_eq_false, reduceCtorEq, VH.eq_str, VH.ne_str, VH.eq_int, VH.ne_int, VH.add_int, VH.le_int, VH.lt_int, VH.gt_int, VH.ge_int, VH.ixt0, VH.ixt1, VH.ixt2, VH.ixl0, VH.ixl1, VH.tup0, VH.tup1, VH.tup2, VH.tup3, VH.lst0, VH.lst1, VH.lst2, VH.lst3, VH.len_list, VH.len_tuple, VH.items_list, VH.items_tuple, L1_check_question, e], _, _, rfl⟩
      | false =>
        have h2 : (s.lookup t).isSome = false := hc
        rw [h2] at e
        exact ⟨[some (.sh (scD s)), Q, HD, some (.sh (.tuple (as.map atD))), some (.sh (.str t)), some (.sh (.tuple (ts.map tmD))), C, G, I], by simp only [pr_run, out, oR, sSeq, sIf, eP, ePk, ePkT, eFr, frzS, frz1, shE, VH.shS_sh, VH.shS_lst, VH.shS_dic, VH.shS_scr, VH.shS_none, pVar, pC, pBin, pChain, pUn, pMap, pB, pTru, pNN, pNNo, pAnd, pOr, pNot, pAndV, pOrV, pNotV, pIf, pNil, pCons, pAll, pPart, pPart0, pSl, pM1, pSeq, pSeq2, pCall_pr, pGet2, pGet3, isDic, Pr.bind, Pr.lift, eAnd, eOr, eNot, eB, bnd, eBin, eUn, eSub, eC, VH.ret, lift, eVar, eSh, eFz, sSet, sRet, sPut, sAsg, sPar, sPar3, sFz, tgN, tgT, tgSeq, eAll, eCons, eNil, eIf, sDo, sApp, sExt, sNext, oLst, oAdd, oIf, oList, oDic0, eMov, eSl, ePart, eCallU, aNil, aVal, aBor, takeA, putA, sRaise, List.getElem?_cons_zero, List.getElem?_cons_succ, List.set_cons_zero, List.set_cons_succ, Nat.reduceSub, Nat.reduceAdd, Nat.reduceLT, Nat.reduceLeDiff, Option.bind, Option.map, O.fzb, O.fzbK, fz, blD, VH.isN_none, VH.isN_int, VH.isN_str, VH.isN_bool, VH.isN_tup, VH.isN_lst, VH.isN_dic, vi_int, vi_bool, vi_str, vi_tuple, vi_list, vi_dict, truD, flR, flRA, List.map_cons, List.map_nil, List.replicate, List.cons_append, List.nil_append, List.length_cons, List.length_nil, if_true, if_false, ite_true, ite_false, Bool.false_eq_true, decide_true, decide_false, beq_self_eq_true, Bool.not_true, Bool.not_false, and_self, and_true, true_and, and_false, false_and, Bool.or_true, Bool.true_or, Bool.or_false, Bool.false_or, Bool.and_true, Bool.and_false, Bool.true_and, Bool.false_and, ne_eq, not_false_eq_true, not_true_eq_false, reduceCtorEq, VH.eq_str, VH.ne_str, VH.eq_int, VH.ne_int, VH.add_int, VH.le_int, VH.lt_int, VH.gt_int, VH.ge_int, VH.ixt0, VH.ixt1, VH.ixt2, VH.ixl0, VH.ixl1, VH.tup0, VH.tup1, VH.tup2, VH.tup3, VH.lst0, VH.lst1, VH.lst2, VH.lst3, VH.len_list, VH.len_tuple, VH.items_list, VH.items_tuple, L1_check_question, e, codeX], _, _, rfl⟩) as () _ (fun _ _ => trivial) ⟨A, B, rfl⟩
  rw [foldlM_all, h] at hl
  have hf : sFor (eP (pSeq itemsD (pVar 3))) (tgT 2 [tgN 4, tgN 5]) (L1_check_question run1 run2) [some (.sh (scD s)), Q, HD, some (.sh (.tuple (as.map atD))), A, B, C, G, I] = loopS (tgT 2 [tgN 4, tgN 5]) (L1_check_question run1 run2) (as.map atD) [some (.sh (scD s)), Q, HD, some (.sh (.tuple (as.map atD))), A, B, C, G, I] :=
    for_eq (by simp only [pr_run, out, oR, sSeq, sIf, eP, ePk, ePkT, eFr, frzS, frz1, shE, VH.shS_sh, VH.shS_lst, VH.shS_dic, VH.shS_scr, VH.shS_none, pVar, pC, pBin, pChain, pUn, pMap, pB, pTru, pNN, pNNo, pAnd, pOr, pNot, pAndV, pOrV, pNotV, pIf, pNil, pCons, pAll, pPart, pPart0, pSl, pM1, pSeq, pSeq2, pCall_pr, pGet2, pGet3, isDic, Pr.bind, Pr.lift, eAnd, eOr, eNot, eB, bnd, eBin, eUn, eSub, eC, VH.ret, lift, eVar, eSh, eFz, sSet, sRet, sPut, sAsg, sPar, sPar3, sFz, tgN, tgT, tgSeq, eAll, eCons, eNil, eIf, sDo, sApp, sExt, sNext, oLst, oAdd, oIf, oList, oDic0, eMov, eSl, ePart, eCallU, aNil, aVal, aBor, takeA, putA, sRaise, List.getElem?_cons_zero, List.getElem?_cons_succ, List.set_cons_zero, List.set_cons_succ, Nat.reduceSub, Nat.reduceAdd, Nat.reduceLT, Nat.reduceLeDiff, Option.bind, Option.map, O.fzb, O.fzbK, fz, blD, VH.isN_none, VH.isN_int, VH.isN_str, VH.isN_bool, VH.isN_tup, VH.isN_lst, VH.isN_dic, vi_int, vi_bool, vi_str, vi_tuple, vi_list, vi_dict, truD, flR, flRA, List.map_cons, List.map_nil, List.replicate, List.cons_append, List.nil_append, List.length_cons, List.length_nil, if_true, if_false, ite_true, ite_false, Bool.false_eq_true, decide_true, decide_false, beq_self_eq_true, Bool.not_true, Bool.not_false, and_self, and_true, true_and, and_false, false_and, Bool.or_true, Bool.true_or, Bool.or_false, Bool.false_or, Bool.and_true, Bool.and_false, Bool.true_and, Bool.false_and, ne_eq, not_false_eq_true, not_true_eq_false, reduceCtorEq, VH.eq_str, VH.ne_str, VH.eq_int, VH.ne_int, VH.add_int, VH.le_int, VH.lt_int, VH.gt_int, VH.ge_int, VH.ixt0, VH.ixt1, VH.ixt2, VH.ixl0, VH.ixl1, VH.tup0, VH.tup1, VH.tup2, VH.tup3, VH.lst0, VH.lst1, VH.lst2, VH.lst3, VH.len_list, VH.len_tuple, VH.items_list, VH.items_tuple])
  rw [hf]
  cases b with
  | true =>
    obtain ⟨e, h1, u, v, rfl⟩ := hl
    exact ⟨u, v, h1⟩
  | false =>
    obtain ⟨e, h1, u, v, rfl⟩ := hl
    exact ⟨u, v, h1⟩
theorem cq_terms (s : Sch) (Q HD A B C G I : Option O) (as : List Atom) (h : as.all (atomOk s) = b) (ht : as.all (tableOk s) = true) (ho : ∀ a ∈ as, AOk a) (run2 : List O → Rs O) : ∃ u v, sFor (eP (pSeq itemsD (pVar 3))) (tgT 2 [tgN 4, tgN 6]) (L2_check_question r_terms_fit run2) [some (.sh (scD s)), Q, HD, some (.sh (.tuple (as.map atD))), A, B, C, G, I] =
    if b = true then .ok .nx [some (.sh (scD s)), Q, HD, some (.sh (.tuple (as.map atD))), u, B, v, G, I] else .exc (codeX (Str.ofString "terms")) [some (.sh (scD s)), Q, HD, some (.sh (.tuple (as.map atD))), u, B, v, G, I] := by
  have hl := Got.loop (e := atD) (tg := tgT 2 [tgN 4, tgN 6]) (body := L2_check_question r_terms_fit run2) (β := Unit) (step := fun _ a => if atomOk s a = true then .ok () else .error (.exc (codeX (Str.ofString "terms"))))
    (S := fun _ env => ∃ u v, env = [some (.sh (scD s)), Q, HD, some (.sh (.tuple (as.map atD))), u, B, v, G, I]) (R := fun env => ∃ u v, env = [some (.sh (scD s)), Q, HD, some (.sh (.tuple (as.map atD))), u, B, v, G, I]) (P := fun a => tableOk s a = true ∧ AOk a) (fun _ a env ⟨hp1, hp2⟩ ⟨u, v, he⟩ => by
      subst he
      obtain ⟨t, ts⟩ := a
      refine ⟨[some (.sh (scD s)), Q, HD, some (.sh (.tuple (as.map atD))), some (.sh (.str t)), B, some (.sh (.tuple (ts.map tmD))), G, I], by simp only [pr_run, out, oR, sSeq, sIf, eP, ePk, ePkT, eFr, frzS, frz1, shE, VH.shS_sh, VH.shS_lst, VH.shS_dic, VH.shS_scr, VH.shS_none, pVar, pC, pBin, pChain, pUn, pMap, pB, pTru, pNN, pNNo, pAnd, pOr, pNot, pAndV, pOrV, pNotV, pIf, pNil, pCons, pAll, pPart, pPart0, pSl, pM1, pSeq, pSeq2, pCall_pr, pGet2, pGet3, isDic, Pr.bind, Pr.lift, eAnd, eOr, eNot, eB, bnd, eBin, eUn, eSub, eC, VH.ret, lift, eVar, eSh, eFz, sSet, sRet, sPut, sAsg, sPar, sPar3, sFz, tgN, tgT, tgSeq, eAll, eCons, eNil, eIf, sDo, sApp, sExt, sNext, oLst, oAdd, oIf, oList, oDic0, eMov, eSl, ePart, eCallU, aNil, aVal, aBor, takeA, putA, sRaise, List.getElem?_cons_zero, List.getElem?_cons_succ, List.set_cons_zero, List.set_cons_succ, Nat.reduceSub, Nat.reduceAdd, Nat.reduceLT, Nat.reduceLeDiff, Option.bind, Option.map, O.fzb, O.fzbK, fz, blD, VH.isN_none, VH.isN_int, VH.isN_str, VH.isN_bool, VH.isN_tup, VH.isN_lst, VH.isN_dic, vi_int, vi_bool, vi_str, vi_tuple, vi_list, vi_dict, truD, flR, flRA, List.map_cons, List.map_nil, List.replicate, List.cons_append, List.nil_append, List.length_cons, List.length_nil, if_true, if_false, ite_true, ite_false, Bool.false_eq_true, decide_true, decide_false, beq_self_eq_true, Bool.not_true, Bool.not_false, and_self, and_true, true_and, and_false, false_and, Bool.or_true, Bool.true_or, Bool.or_false, Bool.false_or, Bool.and_true, Bool.and_false, Bool.true_and, Bool.false_and, ne_eq, not_false_eq_true, not_true_eq_false, reduceCtorEq, VH.eq_str, VH.ne_str, VH.eq_int, VH.ne_int, VH.add_int, VH.le_int, VH.lt_int, VH.gt_int, VH.ge_int, VH.ixt0, VH.ixt1, VH.ixt2, VH.ixl0, VH.ixl1, VH.tup0, VH.tup1, VH.tup2, VH.tup3, VH.lst0, VH.lst1, VH.lst2, VH.lst3, VH.len_list, VH.len_tuple, VH.items_list, VH.items_tuple, atD], ?_⟩
      obtain ⟨cs, hcs⟩ := Option.isSome_iff_exists.mp (show (s.lookup t).isSome = true from hp1)
      have e1 := idx_sc hcs
      have e2 := idx_tb cs
      have e3 := p_terms_fit (ts := ts) hp2 cs
      have hcol : colsOf s t = cs := by unfold colsOf; rw [hcs]; rfl
      cases hc : atomOk s (t, ts) with
      | true =>
        have h2 : termsFit ts cs = true := by rw [← hcol]; exact hc
        rw [h2] at e3
        exact ⟨[some (.sh (scD s)), Q, HD, some (.sh (.tuple (as.map atD))), some (.sh (.str t)), B, some (.sh (.tuple (ts.map tmD))), G, I], by simp only [pr_run, out, oR, sSeq, sIf, eP, ePk, ePkT, eFr, frzS, frz1, shE, VH.shS_sh, VH.shS_lst, VH.shS_dic, VH.shS_scr, VH.shS_none, pVar, pC, pBin, pChain, pUn, pMap, pB, pTru, pNN, pNNo, pAnd, pOr, pNot, pAndV, pOrV, pNotV, pIf, pNil, pCons, pAll, pPart, pPart0, pSl, pM1, pSeq, pSeq2, pCall_pr, pGet2, pGet3, isDic, Pr.bind, Pr.lift, eAnd, eOr, eNot, eB, bnd, eBin, eUn, eSub, eC, VH.ret, lift, eVar, eSh, eFz, sSet, sRet, sPut, sAsg, sPar, sPar3, sFz, tgN, tgT, tgSeq, eAll, eCons, eNil, eIf, sDo, sApp, sExt, sNext, oLst, oAdd, oIf, oList, oDic0, eMov, eSl, ePart, eCallU, aNil, aVal, aBor, takeA, putA, sRaise, List.getElem?_cons_zero, List.getElem?_cons_succ, List.set_cons_zero, List.set_cons_succ, Nat.reduceSub, Nat.reduceAdd, Nat.reduceLT, Nat.reduceLeDiff, Option.bind, Option.map, O.fzb, O.fzbK, fz, blD, VH.isN_none, VH.isN_int, VH.isN_str, VH.isN_bool, VH.isN_tup, VH.isN_lst, VH.isN_dic, vi_int, vi_bool, vi_str, vi_tuple, vi_list, vi_dict, truD, flR, flRA, List.map_cons, List.map_nil, List.replicate, List.cons_append, List.nil_append, List.length_cons, List.length_nil, if_true, if_false, ite_true, ite_false, Bool.false_eq_true, decide_true, decide_false, beq_self_eq_true, Bool.not_true, Bool.not_false, and_self, and_true, true_and, and_false, false_and, Bool.or_true, Bool.true_or, Bool.or_false, Bool.false_or, Bool.and_true, Bool.and_false, Bool.true_and, Bool.false_and, ne_eq, not_false_eq_true, not_true_eq_false, reduceCtorEq, VH.eq_str, VH.ne_str, VH.eq_int, VH.ne_int, VH.add_int, VH.le_int, VH.lt_int, VH.gt_int, VH.ge_int, VH.ixt0, VH.ixt1, VH.ixt2, VH.ixl0, VH.ixl1, VH.tup0, VH.tup1, VH.tup2, VH.tup3, VH.lst0, VH.lst1, VH.lst2, VH.lst3, VH.len_list, VH.len_tuple, VH.items_list, VH.items_tuple, L2_check_question, e1, e2, e3], _, _, rfl⟩
      | false =>
        have h2 : termsFit ts cs = false := by rw [← hcol]; exact hc
        rw [h2] at e3
        exact ⟨[some (.sh (scD s)), Q, HD, some (.sh (.tuple (as.map atD))), some (.sh (.str t)), B, some (.sh (.tuple (ts.map tmD))), G, I], by simp only [pr_run, out, oR, sSeq, sIf, eP, ePk, ePkT, eFr, frzS, frz1, shE, VH.shS_sh, VH.shS_lst, VH.shS_dic, VH.shS_scr, VH.shS_none, pVar, pC, pBin, pChain, pUn, pMap, pB, pTru, pNN, pNNo, pAnd, pOr, pNot, pAndV, pOrV, pNotV, pIf, pNil, pCons, pAll, pPart, pPart0, pSl, pM1, pSeq, pSeq2, pCall_pr, pGet2, pGet3, isDic, Pr.bind, Pr.lift, eAnd, eOr, eNot, eB, bnd, eBin, eUn, eSub, eC, VH.ret, lift, eVar, eSh, eFz, sSet, sRet, sPut, sAsg, sPar, sPar3, sFz, tgN, tgT, tgSeq, eAll, eCons, eNil, eIf, sDo, sApp, sExt, sNext, oLst, oAdd, oIf, oList, oDic0, eMov, eSl, ePart, eCallU, aNil, aVal, aBor, takeA, putA, sRaise, List.getElem?_cons_zero, List.getElem?_cons_succ, List.set_cons_zero, List.set_cons_succ, Nat.reduceSub, Nat.reduceAdd, Nat.reduceLT, Nat.reduceLeDiff, Option.bind, Option.map, O.fzb, O.fzbK, fz, blD, VH.isN_none, VH.isN_int, VH.isN_str, VH.isN_bool, VH.isN_tup, VH.isN_lst, VH.isN_dic, vi_int, vi_bool, vi_str, vi_tuple, vi_list, vi_dict, truD, flR, flRA, List.map_cons, List.map_nil, List.replicate, List.cons_append, List.nil_append, List.length_cons, List.length_nil, if_true, if_false, ite_true, ite_false, Bool.false_eq_true, decide_true, decide_false, beq_self_eq_true, Bool.not_true, Bool.not_false, and_self, and_true, true_and, and_false, false_and, Bool.or_true, Bool.true_or, Bool.or_false, Bool.false_or, Bool.and_true, Bool.and_false, Bool.true_and, Bool.false_and, ne_eq, not_false_eq_true, not_true_eq_false, reduceCtorEq, VH.eq_str, VH.ne_str, VH.eq_int, VH.ne_int, VH.add_int, VH.le_int, VH.lt_int, VH.gt_int, VH.ge_int, VH.ixt0, VH.ixt1, VH.ixt2, VH.ixl0, VH.ixl1, VH.tup0, VH.tup1, VH.tup2, VH.tup3, VH.lst0, VH.lst1, VH.lst2, VH.lst3, VH.len_list, VH.len_tuple, VH.items_list, VH.items_tuple, L2_check_question, e1, e2, e3, codeX], _, _, rfl⟩) as () _ (fun a ha => ⟨List.all_eq_true.mp ht a ha, ho a ha⟩) ⟨A, C, rfl⟩
  rw [foldlM_all, h] at hl
  have hf : sFor (eP (pSeq itemsD (pVar 3))) (tgT 2 [tgN 4, tgN 6]) (L2_check_question r_terms_fit run2) [some (.sh (scD s)), Q, HD, some (.sh (.tuple (as.map atD))), A, B, C, G, I] = loopS (tgT 2 [tgN 4, tgN 6]) (L2_check_question r_terms_fit run2) (as.map atD) [some (.sh (scD s)), Q, HD, some (.sh (.tuple (as.map atD))), A, B, C, G, I] :=
    for_eq (by simp only [pr_run, out, oR, sSeq, sIf, eP, ePk, ePkT, eFr, frzS, frz1, shE, VH.shS_sh, VH.shS_lst, VH.shS_dic, VH.shS_scr, VH.shS_none, pVar, pC, pBin, pChain, pUn, pMap, pB, pTru, pNN, pNNo, pAnd, pOr, pNot, pAndV, pOrV, pNotV, pIf, pNil, pCons, pAll, pPart, pPart0, pSl, pM1, pSeq, pSeq2, pCall_pr, pGet2, pGet3, isDic, Pr.bind, Pr.lift, eAnd, eOr, eNot, eB, bnd, eBin, eUn, eSub, eC, VH.ret, lift, eVar, eSh, eFz, sSet, sRet, sPut, sAsg, sPar, sPar3, sFz, tgN, tgT, tgSeq, eAll, eCons, eNil, eIf, sDo, sApp, sExt, sNext, oLst, oAdd, oIf, oList, oDic0, eMov, eSl, ePart, eCallU, aNil, aVal, aBor, takeA, putA, sRaise, List.getElem?_cons_zero, List.getElem?_cons_succ, List.set_cons_zero, List.set_cons_succ, Nat.reduceSub, Nat.reduceAdd, Nat.reduceLT, Nat.reduceLeDiff, Option.bind, Option.map, O.fzb, O.fzbK, fz, blD, VH.isN_none, VH.isN_int, VH.isN_str, VH.isN_bool, VH.isN_tup, VH.isN_lst, VH.isN_dic, vi_int, vi_bool, vi_str, vi_tuple, vi_list, vi_dict, truD, flR, flRA, List.map_cons, List.map_nil, List.replicate, List.cons_append, List.nil_append, List.length_cons, List.length_nil, if_true, if_false, ite_true, ite_false, Bool.false_eq_true, decide_true, decide_false, beq_self_eq_true, Bool.not_true, Bool.not_false, and_self, and_true, true_and, and_false, false_and, Bool.or_true, Bool.true_or, Bool.or_false, Bool.false_or, Bool.and_true, Bool.and_false, Bool.true_and, Bool.false_and, ne_eq, not_false_eq_true, not_true_eq_false, reduceCtorEq, VH.eq_str, VH.ne_str, VH.eq_int, VH.ne_int, VH.add_int, VH.le_int, VH.lt_int, VH.gt_int, VH.ge_int, VH.ixt0, VH.ixt1, VH.ixt2, VH.ixl0, VH.ixl1, VH.tup0, VH.tup1, VH.tup2, VH.tup3, VH.lst0, VH.lst1, VH.lst2, VH.lst3, VH.len_list, VH.len_tuple, VH.items_list, VH.items_tuple])
  rw [hf]
  cases b with
  | true =>
    obtain ⟨e, h1, u, v, rfl⟩ := hl
    exact ⟨u, v, h1⟩
  | false =>
    obtain ⟨e, h1, u, v, rfl⟩ := hl
    exact ⟨u, v, h1⟩
theorem pcomp_names (f : Fk) (xs : List Str) (X0 X1 X3 X4 X5 X6 : Option O) (K : O) (hK : K = .sh (.dict (fkD f))) : pComp (pSeq itemsD (pVar 2)) (tgN 8) [8] (fun _ => .ok true) (pBin inOp (pVar 8) (pVar 7)) [X0, X1, some (.sh (.tuple (xs.map .str))), X3, X4, X5, X6, some K, none] = .ok (.list ((xs.map fun x => (f.lookup x).isSome).map .bool)) := by
  subst hK
  refine pCompL_eq (items := xs.map .str) (by simp only [pr_run, out, oR, sSeq, sIf, eP, ePk, ePkT, eFr, frzS, frz1, shE, VH.shS_sh, VH.shS_lst, VH.shS_dic, VH.shS_scr, VH.shS_none, pVar, pC, pBin, pChain, pUn, pMap, pB, pTru, pNN, pNNo, pAnd, pOr, pNot, pAndV, pOrV, pNotV, pIf, pNil, pCons, pAll, pPart, pPart0, pSl, pM1, pSeq, pSeq2, pCall_pr, pGet2, pGet3, isDic, Pr.bind, Pr.lift, eAnd, eOr, eNot, eB, bnd, eBin, eUn, eSub, eC, VH.ret, lift, eVar, eSh, eFz, sSet, sRet, sPut, sAsg, sPar, sPar3, sFz, tgN, tgT, tgSeq, eAll, eCons, eNil, eIf, sDo, sApp, sExt, sNext, oLst, oAdd, oIf, oList, oDic0, eMov, eSl, ePart, eCallU, aNil, aVal, aBor, takeA, putA, sRaise, List.getElem?_cons_zero, List.getElem?_cons_succ, List.set_cons_zero, List.set_cons_succ, Nat.reduceSub, Nat.reduceAdd, Nat.reduceLT, Nat.reduceLeDiff, Option.bind, Option.map, O.fzb, O.fzbK, fz, blD, VH.isN_none, VH.isN_int, VH.isN_str, VH.isN_bool, VH.isN_tup, VH.isN_lst, VH.isN_dic, vi_int, vi_bool, vi_str, vi_tuple, vi_list, vi_dict, truD, flR, flRA, List.map_cons, List.map_nil, List.replicate, List.cons_append, List.nil_append, List.length_cons, List.length_nil, if_true, if_false, ite_true, ite_false, Bool.false_eq_true, decide_true, decide_false, beq_self_eq_true, Bool.not_true, Bool.not_false, and_self, and_true, true_and, and_false, false_and, Bool.or_true, Bool.true_or, Bool.or_false, Bool.false_or, Bool.and_true, Bool.and_false, Bool.true_and, Bool.false_and, ne_eq, not_false_eq_true, not_true_eq_false, reduceCtorEq, VH.eq_str, VH.ne_str, VH.eq_int, VH.ne_int, VH.add_int, VH.le_int, VH.lt_int, VH.gt_int, VH.ge_int, VH.ixt0, VH.ixt1, VH.ixt2, VH.ixl0, VH.ixl1, VH.tup0, VH.tup1, VH.tup2, VH.tup3, VH.lst0, VH.lst1, VH.lst2, VH.lst3, VH.len_list, VH.len_tuple, VH.items_list, VH.items_tuple]) ?_
  rw [List.map_map]
  refine mapP_all (k := fun x => PyData.bool (f.lookup x).isSome) fun x _ => ?_
  unfold pItem
  simp only [pr_run, out, oR, sSeq, sIf, eP, ePk, ePkT, eFr, frzS, frz1, shE, VH.shS_sh, VH.shS_lst, VH.shS_dic, VH.shS_scr, VH.shS_none, pVar, pC, pBin, pChain, pUn, pMap, pB, pTru, pNN, pNNo, pAnd, pOr, pNot, pAndV, pOrV, pNotV, pIf, pNil, pCons, pAll, pPart, pPart0, pSl, pM1, pSeq, pSeq2, pCall_pr, pGet2, pGet3, isDic, Pr.bind, Pr.lift, eAnd, eOr, eNot, eB, bnd, eBin, eUn, eSub, eC, VH.ret, lift, eVar, eSh, eFz, sSet, sRet, sPut, sAsg, sPar, sPar3, sFz, tgN, tgT, tgSeq, eAll, eCons, eNil, eIf, sDo, sApp, sExt, sNext, oLst, oAdd, oIf, oList, oDic0, eMov, eSl, ePart, eCallU, aNil, aVal, aBor, takeA, putA, sRaise, List.getElem?_cons_zero, List.getElem?_cons_succ, List.set_cons_zero, List.set_cons_succ, Nat.reduceSub, Nat.reduceAdd, Nat.reduceLT, Nat.reduceLeDiff, Option.bind, Option.map, O.fzb, O.fzbK, fz, blD, VH.isN_none, VH.isN_int, VH.isN_str, VH.isN_bool, VH.isN_tup, VH.isN_lst, VH.isN_dic, vi_int, vi_bool, vi_str, vi_tuple, vi_list, vi_dict, truD, flR, flRA, List.map_cons, List.map_nil, List.replicate, List.cons_append, List.nil_append, List.length_cons, List.length_nil, if_true, if_false, ite_true, ite_false, Bool.false_eq_true, decide_true, decide_false, beq_self_eq_true, Bool.not_true, Bool.not_false, and_self, and_true, true_and, and_false, false_and, Bool.or_true, Bool.true_or, Bool.or_false, Bool.false_or, Bool.and_true, Bool.and_false, Bool.true_and, Bool.false_and, ne_eq, not_false_eq_true, not_true_eq_false, reduceCtorEq, VH.eq_str, VH.ne_str, VH.eq_int, VH.ne_int, VH.add_int, VH.le_int, VH.lt_int, VH.gt_int, VH.ge_int, VH.ixt0, VH.ixt1, VH.ixt2, VH.ixl0, VH.ixl1, VH.tup0, VH.tup1, VH.tup2, VH.tup3, VH.lst0, VH.lst1, VH.lst2, VH.lst3, VH.len_list, VH.len_tuple, VH.items_list, VH.items_tuple, dropE, in_fk]
theorem p_check_question {s : Sch} {q : Qn} (ho : ∀ a ∈ q.atoms, AOk a) (hl : total q.atoms ≤ 1000) : pr (r_check_question [.sh (scD s), .sh (qD q)]) = checkP (checkQ s q) := by
  obtain ⟨hd, as⟩ := q
  dsimp only at ho hl
  unfold r_check_question b_check_question
  have c1 : decide ((1 : Int) ≤ as.length) = decide (1 ≤ as.length) := decide_eq_decide.mpr (by omega)
  have c2 : decide ((as.length : Int) ≤ 6) = decide (as.length ≤ 6) := decide_eq_decide.mpr (by omega)
  have c3 : decide ((4 : Int) < hd.length) = decide (4 < hd.length) := decide_eq_decide.mpr (by omega)
  rw [pr_run]
  simp only [List.map_cons, List.map_nil, List.length_cons, List.length_nil, Nat.reduceSub, Nat.reduceAdd, List.replicate, List.cons_append, List.nil_append]
  rw [seq_ok (e := [some (.sh (scD s)), some (.sh (qD ⟨hd, as⟩)), some (.sh (.tuple (hd.map .str))), some (.sh (.tuple (as.map atD))), none, none, none, none, none])]
  rotate_left
  · simp only [pr_run, out, oR, sSeq, sIf, eP, ePk, ePkT, eFr, frzS, frz1, shE, VH.shS_sh, VH.shS_lst, VH.shS_dic, VH.shS_scr, VH.shS_none, pVar, pC, pBin, pChain, pUn, pMap, pB, pTru, pNN, pNNo, pAnd, pOr, pNot, pAndV, pOrV, pNotV, pIf, pNil, pCons, pAll, pPart, pPart0, pSl, pM1, pSeq, pSeq2, pCall_pr, pGet2, pGet3, isDic, Pr.bind, Pr.lift, eAnd, eOr, eNot, eB, bnd, eBin, eUn, eSub, eC, VH.ret, lift, eVar, eSh, eFz, sSet, sRet, sPut, sAsg, sPar, sPar3, sFz, tgN, tgT, tgSeq, eAll, eCons, eNil, eIf, sDo, sApp, sExt, sNext, oLst, oAdd, oIf, oList, oDic0, eMov, eSl, ePart, eCallU, aNil, aVal, aBor, takeA, putA, sRaise, List.getElem?_cons_zero, List.getElem?_cons_succ, List.set_cons_zero, List.set_cons_succ, Nat.reduceSub, Nat.reduceAdd, Nat.reduceLT, Nat.reduceLeDiff, Option.bind, Option.map, O.fzb, O.fzbK, fz, blD, VH.isN_none, VH.isN_int, VH.isN_str, VH.isN_bool, VH.isN_tup, VH.isN_lst, VH.isN_dic, vi_int, vi_bool, vi_str, vi_tuple, vi_list, vi_dict, truD, flR, flRA, List.map_cons, List.map_nil, List.replicate, List.cons_append, List.nil_append, List.length_cons, List.length_nil, if_true, if_false, ite_true, ite_false, Bool.false_eq_true, decide_true, decide_false, beq_self_eq_true, Bool.not_true, Bool.not_false, and_self, and_true, true_and, and_false, false_and, Bool.or_true, Bool.true_or, Bool.or_false, Bool.false_or, Bool.and_true, Bool.and_false, Bool.true_and, Bool.false_and, ne_eq, not_false_eq_true, not_true_eq_false, reduceCtorEq, VH.eq_str, VH.ne_str, VH.eq_int, VH.ne_int, VH.add_int, VH.le_int, VH.lt_int, VH.gt_int, VH.ge_int, VH.ixt0, VH.ixt1, VH.ixt2, VH.ixl0, VH.ixl1, VH.tup0, VH.tup1, VH.tup2, VH.tup3, VH.lst0, VH.lst1, VH.lst2, VH.lst3, VH.len_list, VH.len_tuple, VH.items_list, VH.items_tuple, qD]
  unfold checkQ
  cases hz : sizeBad ⟨hd, as⟩ with
  | true =>
    rw [seq_exc (x := codeX (Str.ofString "size")) (e := [some (.sh (scD s)), some (.sh (qD ⟨hd, as⟩)), some (.sh (.tuple (hd.map .str))), some (.sh (.tuple (as.map atD))), none, none, none, none, none])]
    · rfl
    · unfold sizeBad at hz
      dsimp only at hz
      cases h1 : decide (1 ≤ as.length) <;> cases h2 : decide (as.length ≤ 6) <;> cases h3 : decide (4 < hd.length) <;> rw [h1, h2, h3] at hz <;> first | (simp only [pr_run, out, oR, sSeq, sIf, eP, ePk, ePkT, eFr, frzS, frz1, shE, VH.shS_sh, VH.shS_lst, VH.shS_dic, VH.shS_scr, VH.shS_none, pVar, pC, pBin, pChain, pUn, pMap, pB, pTru, pNN, pNNo, pAnd, pOr, pNot, pAndV, pOrV, pNotV, pIf, pNil, pCons, pAll, pPart, pPart0, pSl, pM1, pSeq, pSeq2, pCall_pr, pGet2, pGet3, isDic, Pr.bind, Pr.lift, eAnd, eOr, eNot, eB, bnd, eBin, eUn, eSub, eC, VH.ret, lift, eVar, eSh, eFz, sSet, sRet, sPut, sAsg, sPar, sPar3, sFz, tgN, tgT, tgSeq, eAll, eCons, eNil, eIf, sDo, sApp, sExt, sNext, oLst, oAdd, oIf, oList, oDic0, eMov, eSl, ePart, eCallU, aNil, aVal, aBor, takeA, putA, sRaise, List.getElem?_cons_zero, List.getElem?_cons_succ, List.set_cons_zero, List.set_cons_succ, Nat.reduceSub, Nat.reduceAdd, Nat.reduceLT, Nat.reduceLeDiff, Option.bind, Option.map, O.fzb, O.fzbK, fz, blD, VH.isN_none, VH.isN_int, VH.isN_str, VH.isN_bool, VH.isN_tup, VH.isN_lst, VH.isN_dic, vi_int, vi_bool, vi_str, vi_tuple, vi_list, vi_dict, truD, flR, flRA, List.map_cons, List.map_nil, List.replicate, List.cons_append, List.nil_append, List.length_cons, List.length_nil, if_true, if_false, ite_true, ite_false, Bool.false_eq_true, decide_true, decide_false, beq_self_eq_true, Bool.not_true, Bool.not_false, and_self, and_true, true_and, and_false, false_and, Bool.or_true, Bool.true_or, Bool.or_false, Bool.false_or, Bool.and_true, Bool.and_false, Bool.true_and, Bool.false_and, ne_eq, not_false_eq_true, not_true_eq_false, reduceCtorEq, VH.eq_str, VH.ne_str, VH.eq_int, VH.ne_int, VH.add_int, VH.le_int, VH.lt_int, VH.gt_int, VH.ge_int, VH.ixt0, VH.ixt1, VH.ixt2, VH.ixl0, VH.ixl1, VH.tup0, VH.tup1, VH.tup2, VH.tup3, VH.lst0, VH.lst1, VH.lst2, VH.lst3, VH.len_list, VH.len_tuple, VH.items_list, VH.items_tuple, List.length_map, c1, c2, c3, h1, h2, h3, codeX]; done) | cases hz
  | false =>
    rw [seq_ok (e := [some (.sh (scD s)), some (.sh (qD ⟨hd, as⟩)), some (.sh (.tuple (hd.map .str))), some (.sh (.tuple (as.map atD))), none, none, none, none, none])]
    rotate_left
    · unfold sizeBad at hz
      dsimp only at hz
      cases h1 : decide (1 ≤ as.length) <;> cases h2 : decide (as.length ≤ 6) <;> cases h3 : decide (4 < hd.length) <;> rw [h1, h2, h3] at hz <;> first | (simp only [pr_run, out, oR, sSeq, sIf, eP, ePk, ePkT, eFr, frzS, frz1, shE, VH.shS_sh, VH.shS_lst, VH.shS_dic, VH.shS_scr, VH.shS_none, pVar, pC, pBin, pChain, pUn, pMap, pB, pTru, pNN, pNNo, pAnd, pOr, pNot, pAndV, pOrV, pNotV, pIf, pNil, pCons, pAll, pPart, pPart0, pSl, pM1, pSeq, pSeq2, pCall_pr, pGet2, pGet3, isDic, Pr.bind, Pr.lift, eAnd, eOr, eNot, eB, bnd, eBin, eUn, eSub, eC, VH.ret, lift, eVar, eSh, eFz, sSet, sRet, sPut, sAsg, sPar, sPar3, sFz, tgN, tgT, tgSeq, eAll, eCons, eNil, eIf, sDo, sApp, sExt, sNext, oLst, oAdd, oIf, oList, oDic0, eMov, eSl, ePart, eCallU, aNil, aVal, aBor, takeA, putA, sRaise, List.getElem?_cons_zero, List.getElem?_cons_succ, List.set_cons_zero, List.set_cons_succ, Nat.reduceSub, Nat.reduceAdd, Nat.reduceLT, Nat.reduceLeDiff, Option.bind, Option.map, O.fzb, O.fzbK, fz, blD, VH.isN_none, VH.isN_int, VH.isN_str, VH.isN_bool, VH.isN_tup, VH.isN_lst, VH.isN_dic, vi_int, vi_bool, vi_str, vi_tuple, vi_list, vi_dict, truD, flR, flRA, List.map_cons, List.map_nil, List.replicate, List.cons_append, List.nil_append, List.length_cons, List.length_nil, if_true, if_false, ite_true, ite_false, Bool.false_eq_true, decide_true, decide_false, beq_self_eq_true, Bool.not_true, Bool.not_false, and_self, and_true, true_and, and_false, false_and, Bool.or_true, Bool.true_or, Bool.or_false, Bool.false_or, Bool.and_true, Bool.and_false, Bool.true_and, Bool.false_and, ne_eq, not_false_eq_true, not_true_eq_false, reduceCtorEq, VH.eq_str, VH.ne_str, VH.eq_int, VH.ne_int, VH.add_int, VH.le_int, VH.lt_int, VH.gt_int, VH.ge_int, VH.ixt0, VH.ixt1, VH.ixt2, VH.ixl0, VH.ixl1, VH.tup0, VH.tup1, VH.tup2, VH.tup3, VH.lst0, VH.lst1, VH.lst2, VH.lst3, VH.len_list, VH.len_tuple, VH.items_list, VH.items_tuple, List.length_map, c1, c2, c3, h1, h2, h3, codeX]; done) | cases hz
    rw [if_neg Bool.false_ne_true]
    dsimp only
    obtain ⟨u, v, e1⟩ := cq_table (b := as.all (tableOk s)) s (some (.sh (qD ⟨hd, as⟩))) (some (.sh (.tuple (hd.map .str)))) none none none none none as rfl r_terms_fit r_kinds_of
    cases ht : as.all (tableOk s) with
    | false =>
      rw [ht, if_neg Bool.false_ne_true] at e1
      rw [seq_exc e1]
      rfl
    | true =>
      rw [ht, if_pos rfl] at e1
      rw [seq_ok e1, if_pos rfl]
      obtain ⟨u2, v2, e2⟩ := cq_terms (b := as.all (atomOk s)) s (some (.sh (qD ⟨hd, as⟩))) (some (.sh (.tuple (hd.map .str)))) u v none none none as rfl ht ho r_kinds_of
      cases hm : as.all (atomOk s) with
      | false =>
        rw [hm, if_neg Bool.false_ne_true] at e2
        rw [seq_exc e2]
        rfl
      | true =>
        rw [hm, if_pos rfl] at e2
        rw [seq_ok e2, if_pos rfl]
        have ek := p_kinds_of (s := s) (as := as) (fun a ha => Option.isSome_iff_exists.mp (List.all_eq_true.mp ht a ha)) hl
        rw [seq_ok (e := [some (.sh (scD s)), some (.sh (qD ⟨hd, as⟩)), some (.sh (.tuple (hd.map .str))), some (.sh (.tuple (as.map atD))), u2, v, v2, some (.sh (optD (kindsR s as))), none])]
        rotate_left
        · simp only [pr_run, out, oR, sSeq, sIf, eP, ePk, ePkT, eFr, frzS, frz1, shE, VH.shS_sh, VH.shS_lst, VH.shS_dic, VH.shS_scr, VH.shS_none, pVar, pC, pBin, pChain, pUn, pMap, pB, pTru, pNN, pNNo, pAnd, pOr, pNot, pAndV, pOrV, pNotV, pIf, pNil, pCons, pAll, pPart, pPart0, pSl, pM1, pSeq, pSeq2, pCall_pr, pGet2, pGet3, isDic, Pr.bind, Pr.lift, eAnd, eOr, eNot, eB, bnd, eBin, eUn, eSub, eC, VH.ret, lift, eVar, eSh, eFz, sSet, sRet, sPut, sAsg, sPar, sPar3, sFz, tgN, tgT, tgSeq, eAll, eCons, eNil, eIf, sDo, sApp, sExt, sNext, oLst, oAdd, oIf, oList, oDic0, eMov, eSl, ePart, eCallU, aNil, aVal, aBor, takeA, putA, sRaise, List.getElem?_cons_zero, List.getElem?_cons_succ, List.set_cons_zero, List.set_cons_succ, Nat.reduceSub, Nat.reduceAdd, Nat.reduceLT, Nat.reduceLeDiff, Option.bind, Option.map, O.fzb, O.fzbK, fz, blD, VH.isN_none, VH.isN_int, VH.isN_str, VH.isN_bool, VH.isN_tup, VH.isN_lst, VH.isN_dic, vi_int, vi_bool, vi_str, vi_tuple, vi_list, vi_dict, truD, flR, flRA, List.map_cons, List.map_nil, List.replicate, List.cons_append, List.nil_append, List.length_cons, List.length_nil, if_true, if_false, ite_true, ite_false, Bool.false_eq_true, decide_true, decide_false, beq_self_eq_true, Bool.not_true, Bool.not_false, and_self, and_true, true_and, and_false, false_and, Bool.or_true, Bool.true_or, Bool.or_false, Bool.false_or, Bool.and_true, Bool.and_false, Bool.true_and, Bool.false_and, ne_eq, not_false_eq_true, not_true_eq_false, reduceCtorEq, VH.eq_str, VH.ne_str, VH.eq_int, VH.ne_int, VH.add_int, VH.le_int, VH.lt_int, VH.gt_int, VH.ge_int, VH.ixt0, VH.ixt1, VH.ixt2, VH.ixl0, VH.ixl1, VH.tup0, VH.tup1, VH.tup2, VH.tup3, VH.lst0, VH.lst1, VH.lst2, VH.lst3, VH.len_list, VH.len_tuple, VH.items_list, VH.items_tuple, ek]
        cases hk : kindsR s as with
        | none =>
          simp only [pr_run, out, oR, sSeq, sIf, eP, ePk, ePkT, eFr, frzS, frz1, shE, VH.shS_sh, VH.shS_lst, VH.shS_dic, VH.shS_scr, VH.shS_none, pVar, pC, pBin, pChain, pUn, pMap, pB, pTru, pNN, pNNo, pAnd, pOr, pNot, pAndV, pOrV, pNotV, pIf, pNil, pCons, pAll, pPart, pPart0, pSl, pM1, pSeq, pSeq2, pCall_pr, pGet2, pGet3, isDic, Pr.bind, Pr.lift, eAnd, eOr, eNot, eB, bnd, eBin, eUn, eSub, eC, VH.ret, lift, eVar, eSh, eFz, sSet, sRet, sPut, sAsg, sPar, sPar3, sFz, tgN, tgT, tgSeq, eAll, eCons, eNil, eIf, sDo, sApp, sExt, sNext, oLst, oAdd, oIf, oList, oDic0, eMov, eSl, ePart, eCallU, aNil, aVal, aBor, takeA, putA, sRaise, List.getElem?_cons_zero, List.getElem?_cons_succ, List.set_cons_zero, List.set_cons_succ, Nat.reduceSub, Nat.reduceAdd, Nat.reduceLT, Nat.reduceLeDiff, Option.bind, Option.map, O.fzb, O.fzbK, fz, blD, VH.isN_none, VH.isN_int, VH.isN_str, VH.isN_bool, VH.isN_tup, VH.isN_lst, VH.isN_dic, vi_int, vi_bool, vi_str, vi_tuple, vi_list, vi_dict, truD, flR, flRA, List.map_cons, List.map_nil, List.replicate, List.cons_append, List.nil_append, List.length_cons, List.length_nil, if_true, if_false, ite_true, ite_false, Bool.false_eq_true, decide_true, decide_false, beq_self_eq_true, Bool.not_true, Bool.not_false, and_self, and_true, true_and, and_false, false_and, Bool.or_true, Bool.true_or, Bool.or_false, Bool.false_or, Bool.and_true, Bool.and_false, Bool.true_and, Bool.false_and, ne_eq, not_false_eq_true, not_true_eq_false, reduceCtorEq, VH.eq_str, VH.ne_str, VH.eq_int, VH.ne_int, VH.add_int, VH.le_int, VH.lt_int, VH.gt_int, VH.ge_int, VH.ixt0, VH.ixt1, VH.ixt2, VH.ixl0, VH.ixl1, VH.tup0, VH.tup1, VH.tup2, VH.tup3, VH.lst0, VH.lst1, VH.lst2, VH.lst3, VH.len_list, VH.len_tuple, VH.items_list, VH.items_tuple, optD, codeX]
          rfl
        | some f =>
          have e3 := pcomp_names f hd (some (.sh (scD s))) (some (.sh (qD ⟨hd, as⟩))) (some (.sh (.tuple (as.map atD)))) (shS u2) (shS v) (shS v2) (.sh (.dict (fkD f))) rfl
          rw [seq_ok (e := [some (.sh (scD s)), some (.sh (qD ⟨hd, as⟩)), some (.sh (.tuple (hd.map .str))), some (.sh (.tuple (as.map atD))), u2, v, v2, some (.sh (.dict (fkD f))), none])]
          rotate_left
          · simp only [pr_run, out, oR, sSeq, sIf, eP, ePk, ePkT, eFr, frzS, frz1, shE, VH.shS_sh, VH.shS_lst, VH.shS_dic, VH.shS_scr, VH.shS_none, pVar, pC, pBin, pChain, pUn, pMap, pB, pTru, pNN, pNNo, pAnd, pOr, pNot, pAndV, pOrV, pNotV, pIf, pNil, pCons, pAll, pPart, pPart0, pSl, pM1, pSeq, pSeq2, pCall_pr, pGet2, pGet3, isDic, Pr.bind, Pr.lift, eAnd, eOr, eNot, eB, bnd, eBin, eUn, eSub, eC, VH.ret, lift, eVar, eSh, eFz, sSet, sRet, sPut, sAsg, sPar, sPar3, sFz, tgN, tgT, tgSeq, eAll, eCons, eNil, eIf, sDo, sApp, sExt, sNext, oLst, oAdd, oIf, oList, oDic0, eMov, eSl, ePart, eCallU, aNil, aVal, aBor, takeA, putA, sRaise, List.getElem?_cons_zero, List.getElem?_cons_succ, List.set_cons_zero, List.set_cons_succ, Nat.reduceSub, Nat.reduceAdd, Nat.reduceLT, Nat.reduceLeDiff, Option.bind, Option.map, O.fzb, O.fzbK, fz, blD, VH.isN_none, VH.isN_int, VH.isN_str, VH.isN_bool, VH.isN_tup, VH.isN_lst, VH.isN_dic, vi_int, vi_bool, vi_str, vi_tuple, vi_list, vi_dict, truD, flR, flRA, List.map_cons, List.map_nil, List.replicate, List.cons_append, List.nil_append, List.length_cons, List.length_nil, if_true, if_false, ite_true, ite_false, Bool.false_eq_true, decide_true, decide_false, beq_self_eq_true, Bool.not_true, Bool.not_false, and_self, and_true, true_and, and_false, false_and, Bool.or_true, Bool.true_or, Bool.or_false, Bool.false_or, Bool.and_true, Bool.and_false, Bool.true_and, Bool.false_and, ne_eq, not_false_eq_true, not_true_eq_false, reduceCtorEq, VH.eq_str, VH.ne_str, VH.eq_int, VH.ne_int, VH.add_int, VH.le_int, VH.lt_int, VH.gt_int, VH.ge_int, VH.ixt0, VH.ixt1, VH.ixt2, VH.ixl0, VH.ixl1, VH.tup0, VH.tup1, VH.tup2, VH.tup3, VH.lst0, VH.lst1, VH.lst2, VH.lst3, VH.len_list, VH.len_tuple, VH.items_list, VH.items_tuple, optD]
          dsimp only
          cases hh : (hd.map fun x => (f.lookup x).isSome).all id with
          | true =>
            simp only [pr_run, out, oR, sSeq, sIf, eP, ePk, ePkT, eFr, frzS, frz1, shE, VH.shS_sh, VH.shS_lst, VH.shS_dic, VH.shS_scr, VH.shS_none, pVar, pC, pBin, pChain, pUn, pMap, pB, pTru, pNN, pNNo, pAnd, pOr, pNot, pAndV, pOrV, pNotV, pIf, pNil, pCons, pAll, pPart, pPart0, pSl, pM1, pSeq, pSeq2, pCall_pr, pGet2, pGet3, isDic, Pr.bind, Pr.lift, eAnd, eOr, eNot, eB, bnd, eBin, eUn, eSub, eC, VH.ret, lift, eVar, eSh, eFz, sSet, sRet, sPut, sAsg, sPar, sPar3, sFz, tgN, tgT, tgSeq, eAll, eCons, eNil, eIf, sDo, sApp, sExt, sNext, oLst, oAdd, oIf, oList, oDic0, eMov, eSl, ePart, eCallU, aNil, aVal, aBor, takeA, putA, sRaise, List.getElem?_cons_zero, List.getElem?_cons_succ, List.set_cons_zero, List.set_cons_succ, Nat.reduceSub, Nat.reduceAdd, Nat.reduceLT, Nat.reduceLeDiff, Option.bind, Option.map, O.fzb, O.fzbK, fz, blD, VH.isN_none, VH.isN_int, VH.isN_str, VH.isN_bool, VH.isN_tup, VH.isN_lst, VH.isN_dic, vi_int, vi_bool, vi_str, vi_tuple, vi_list, vi_dict, truD, flR, flRA, List.map_cons, List.map_nil, List.replicate, List.cons_append, List.nil_append, List.length_cons, List.length_nil, if_true, if_false, ite_true, ite_false, Bool.false_eq_true, decide_true, decide_false, beq_self_eq_true, Bool.not_true, Bool.not_false, and_self, and_true, true_and, and_false, false_and, Bool.or_true, Bool.true_or, Bool.or_false, Bool.false_or, Bool.and_true, Bool.and_false, Bool.true_and, Bool.false_and, ne_eq, not_false_eq_true, not_true_eq_false, reduceCtorEq, VH.eq_str, VH.ne_str, VH.eq_int, VH.ne_int, VH.add_int, VH.le_int, VH.lt_int, VH.gt_int, VH.ge_int, VH.ixt0, VH.ixt1, VH.ixt2, VH.ixl0, VH.ixl1, VH.tup0, VH.tup1, VH.tup2, VH.tup3, VH.lst0, VH.lst1, VH.lst2, VH.lst3, VH.len_list, VH.len_tuple, VH.items_list, VH.items_tuple, e3, all_bools, hh]
            rfl
          | false =>
            simp only [pr_run, out, oR, sSeq, sIf, eP, ePk, ePkT, eFr, frzS, frz1, shE, VH.shS_sh, VH.shS_lst, VH.shS_dic, VH.shS_scr, VH.shS_none, pVar, pC, pBin, pChain, pUn, pMap, pB, pTru, pNN, pNNo, pAnd, pOr, pNot, pAndV, pOrV, pNotV, pIf, pNil, pCons, pAll, pPart, pPart0, pSl, pM1, pSeq, pSeq2, pCall_pr, pGet2, pGet3, isDic, Pr.bind, Pr.lift, eAnd, eOr, eNot, eB, bnd, eBin, eUn, eSub, eC, VH.ret, lift, eVar, eSh, eFz, sSet, sRet, sPut, sAsg, sPar, sPar3, sFz, tgN, tgT, tgSeq, eAll, eCons, eNil, eIf, sDo, sApp, sExt, sNext, oLst, oAdd, oIf, oList, oDic0, eMov, eSl, ePart, eCallU, aNil, aVal, aBor, takeA, putA, sRaise, List.getElem?_cons_zero, List.getElem?_cons_succ, List.set_cons_zero, List.set_cons_succ, Nat.reduceSub, Nat.reduceAdd, Nat.reduceLT, Nat.reduceLeDiff, Option.bind, Option.map, O.fzb, O.fzbK, fz, blD, VH.isN_none, VH.isN_int, VH.isN_str, VH.isN_bool, VH.isN_tup, VH.isN_lst, VH.isN_dic, vi_int, vi_bool, vi_str, vi_tuple, vi_list, vi_dict, truD, flR, flRA, List.map_cons, List.map_nil, List.replicate, List.cons_append, List.nil_append, List.length_cons, List.length_nil, if_true, if_false, ite_true, ite_false, Bool.false_eq_true, decide_true, decide_false, beq_self_eq_true, Bool.not_true, Bool.not_false, and_self, and_true, true_and, and_false, false_and, Bool.or_true, Bool.true_or, Bool.or_false, Bool.false_or, Bool.and_true, Bool.and_false, Bool.true_and, Bool.false_and, ne_eq, not_false_eq_true, not_true_eq_false, reduceCtorEq, VH.eq_str, VH.ne_str, VH.eq_int, VH.ne_int, VH.add_int, VH.le_int, VH.lt_int, VH.gt_int, VH.ge_int, VH.ixt0, VH.ixt1, VH.ixt2, VH.ixl0, VH.ixl1, VH.tup0, VH.tup1, VH.tup2, VH.tup3, VH.lst0, VH.lst1, VH.lst2, VH.lst3, VH.len_list, VH.len_tuple, VH.items_list, VH.items_tuple, e3, all_bools, hh, codeX]
            rfl
end VC
set_option Elab.async false
set_option linter.all false
set_option maxRecDepth 100000
set_option maxHeartbeats 4000000
namespace VC
open PySem PySem.Spec PyProof.Rows L2 VH
/-! ### the tape -/
def tkD (c a l s x : D) : List (D × D) := [(kD kc, c), (kD ka, a), (kD kl, l), (kD ks, s), (kD kx, x)]
section
variable {c a l s x : D}
theorem fzb_tk : O.fzbK (tapeK (.sh c) (.sh a) (.sh l) (.sh s) (.sh x)) = true := rfl
theorem fz_tk : fzK (tapeK (.sh c) (.sh a) (.sh l) (.sh s) (.sh x)) = tkD c a l s x := rfl
theorem ix_tk (k : Key) (z : Str) (h : k = .inr z) : idxD (.dict (tkD c a l s x)) (.str z) = lookK (tkD c a l s x) k := by subst h; rfl
theorem lkD {a' b : D} {r : List (D × D)} {k j : Key} (ha : a' = kD j) : lookK ((a', b) :: r) k = if j = k then some b else lookK r k := by
  subst ha
  show (if VH.keyOf (kD j) = some k then some b else lookK r k) = _
  rw [keyOf_kD]
  by_cases h : j = k
  · rw [if_pos h, if_pos (congrArg some h)]
  · rw [if_neg h, if_neg fun q => h (Option.some.inj q)]
theorem ix_c : idxD (.dict (tkD c a l s x)) (.str (Str.ofString "cells")) = some c := by rw [ix_tk kc _ rfl]; unfold tkD; rw [lkD rfl, if_pos rfl]
theorem ix_a : idxD (.dict (tkD c a l s x)) (.str (Str.ofString "at")) = some a := by rw [ix_tk ka _ rfl]; unfold tkD; rw [lkD rfl, if_neg n_ca, lkD rfl, if_pos rfl]
theorem ix_l : idxD (.dict (tkD c a l s x)) (.str (Str.ofString "left")) = some l := by rw [ix_tk kl _ rfl]; unfold tkD; rw [lkD rfl, if_neg n_cl, lkD rfl, if_neg n_al, lkD rfl, if_pos rfl]
theorem ix_s : idxD (.dict (tkD c a l s x)) (.str (Str.ofString "seed")) = some s := by rw [ix_tk ks _ rfl]; unfold tkD; rw [lkD rfl, if_neg n_cs, lkD rfl, if_neg n_as, lkD rfl, if_neg n_ls, lkD rfl, if_pos rfl]
theorem ix_x : idxD (.dict (tkD c a l s x)) (.str (Str.ofString "salt")) = some x := by rw [ix_tk kx _ rfl]; unfold tkD; rw [lkD rfl, if_neg n_cx, lkD rfl, if_neg n_ax, lkD rfl, if_neg n_lx, lkD rfl, if_neg n_sx, lkD rfl, if_pos rfl]
end
theorem ko_c : VH.keyOf (.str (Str.ofString "cells")) = some kc := rfl
theorem ko_a : VH.keyOf (.str (Str.ofString "at")) = some ka := rfl
theorem ko_l : VH.keyOf (.str (Str.ofString "left")) = some kl := rfl
theorem ko_s : VH.keyOf (.str (Str.ofString "seed")) = some ks := rfl
theorem ko_x : VH.keyOf (.str (Str.ofString "salt")) = some kx := rfl
theorem int_int (i : Int) : intD [.int i] = some (.int i) := rfl
theorem idx_cells {ns : List Int} {i : Nat} (h : i < ns.length) : idxD (.list (ns.map .int)) (.int i) = some (.int ns[i]) := by
  show atI (ns.map PyData.int) (i : Int) = _
  exact atI_nat (by rw [List.getElem?_map, List.getElem?_eq_getElem h]; rfl)
theorem mod_int {a b : Int} (h : 0 < b) : modD (.int a) (.int b) = some (.int (a % b)) := by
  show (if 0 < b then some (PyData.int (a % b)) else none) = _
  rw [if_pos h]
theorem fdiv_int {a b : Int} (h : 0 < b) (h2 : b.natAbs.log2 < 9000) : fdivD (.int a) (.int b) = some (.int (a / b)) := by
  show (if 0 < b ∧ b.natAbs.log2 < 9000 then some (PyData.int (a / b)) else none) = _
  rw [if_pos ⟨h, h2⟩]
theorem mul_int {a b : Int} (h : (-(2 ^ 64) < a ∧ a < 2 ^ 64) ∨ (-(2 ^ 64) < b ∧ b < 2 ^ 64)) : mulD (.int a) (.int b) = some (.int (a * b)) := by
  show (if (-(2 ^ 64) < a ∧ a < 2 ^ 64) ∨ (-(2 ^ 64) < b ∧ b < 2 ^ 64) then some (PyData.int (a * b)) else none) = _
  rw [if_pos h]
theorem take_ok (T : Tape) {m : Int} (h : 0 < m) (hm : m.natAbs.log2 < 9000) : r__law_take [tapeO T, .sh (.int m)] = .ok (.sh (.int (takeT T m).1)) [some (tapeO (takeT T m).2), none] := by
  unfold r__law_take fnRun b__law_take takeT
  simp only [List.map_cons, List.map_nil, List.length_cons, List.length_nil, Nat.reduceSub, Nat.reduceAdd, List.replicate, List.cons_append, List.nil_append]
  rw [seq_ok (e := [some (tapeO (preT T)), some (.sh (.int m)), none, none])]
  · generalize preT T = T
    unfold drawT
    by_cases hp : 0 < T.left
    · rw [if_pos hp]
      unfold tapeO
      have e1 := mod_int (a := T.left) h
      have e2 := fdiv_int (a := T.left) h hm
      simp only [pr_run, out, oR, sSeq, sIf, eP, ePk, ePkT, eFr, frzS, frz1, shE, VH.shS_sh, VH.shS_lst, VH.shS_dic, VH.shS_scr, VH.shS_none, pVar, pC, pBin, pChain, pUn, pMap, pB, pTru, pNN, pNNo, pAnd, pOr, pNot, pAndV, pOrV, pNotV, pIf, pNil, pCons, pAll, pPart, pPart0, pSl, pM1, pSeq, pSeq2, pCall_pr, pGet2, pGet3, isDic, Pr.bind, Pr.lift, eAnd, eOr, eNot, eB, bnd, eBin, eUn, eSub, eC, VH.ret, lift, eVar, eSh, eFz, sSet, sRet, sPut, sAsg, sPar, sPar3, sFz, tgN, tgT, tgSeq, eAll, eCons, eNil, eIf, sDo, sApp, sExt, sNext, oLst, oAdd, oIf, oList, oDic0, eMov, eSl, ePart, eCallU, aNil, aVal, aBor, takeA, putA, sRaise, List.getElem?_cons_zero, List.getElem?_cons_succ, List.set_cons_zero, List.set_cons_succ, Nat.reduceSub, Nat.reduceAdd, Nat.reduceLT, Nat.reduceLeDiff, Option.bind, Option.map, O.fzb, O.fzbK, fz, blD, VH.isN_none, VH.isN_int, VH.isN_str, VH.isN_bool, VH.isN_tup, VH.isN_lst, VH.isN_dic, vi_int, vi_bool, vi_str, vi_tuple, vi_list, vi_dict, truD, flR, flRA, List.map_cons, List.map_nil, List.replicate, List.cons_append, List.nil_append, List.length_cons, List.length_nil, if_true, if_false, ite_true, ite_false, Bool.false_eq_true, decide_true, decide_false, beq_self_eq_true, Bool.not_true, Bool.not_false, and_self, and_true, true_and, and_false, false_and, Bool.or_true, Bool.true_or, Bool.or_false, Bool.false_or, Bool.and_true, Bool.and_false, Bool.true_and, Bool.false_and, ne_eq, not_false_eq_true, not_true_eq_false, reduceCtorEq, VH.eq_str, VH.ne_str, VH.eq_int, VH.ne_int, VH.add_int, VH.le_int, VH.lt_int, VH.gt_int, VH.ge_int, VH.ixt0, VH.ixt1, VH.ixt2, VH.ixl0, VH.ixl1, VH.tup0, VH.tup1, VH.tup2, VH.tup3, VH.lst0, VH.lst1, VH.lst2, VH.lst3, VH.len_list, VH.len_tuple, VH.items_list, VH.items_tuple, fzb_tk, fz_tk, ix_l, hp, e1, e2, tk_len, pt_l, int_int, ko_l, mask]
    · rw [if_neg hp]
      unfold tapeO mixT
      have b1 := Int.emod_nonneg (T.seed * 48271 + (T.salt + 1) * 69621) (show (2147483647 : Int) ≠ 0 by decide)
      have b2 := Int.emod_lt_of_pos (T.seed * 48271 + (T.salt + 1) * 69621) (show (0 : Int) < 2147483647 by decide)
      have e1 : ∀ x : Int, mulD (.int x) (.int 48271) = some (.int (x * 48271)) := fun x => mul_int (.inr (by decide))
      have e2 : ∀ x : Int, mulD (.int x) (.int 69621) = some (.int (x * 69621)) := fun x => mul_int (.inr (by decide))
      have e3 : ∀ x : Int, mulD (.int x) (.int 40692) = some (.int (x * 40692)) := fun x => mul_int (.inr (by decide))
      have e4 : mulD (.int ((T.seed * 48271 + (T.salt + 1) * 69621) % 2147483647)) (.int ((T.seed * 48271 + (T.salt + 1) * 69621) % 2147483647)) = some (.int ((T.seed * 48271 + (T.salt + 1) * 69621) % 2147483647 * ((T.seed * 48271 + (T.salt + 1) * 69621) % 2147483647))) := mul_int (.inl ⟨by omega, by omega⟩)
      have e5 : ∀ x : Int, modD (.int x) (.int 2147483647) = some (.int (x % 2147483647)) := fun x => mod_int (by decide)
      have e6 : ∀ x : Int, modD (.int x) (.int 2147483399) = some (.int (x % 2147483399)) := fun x => mod_int (by decide)
      have e7 : ∀ x : Int, modD (.int x) (.int m) = some (.int (x % m)) := fun x => mod_int h
      simp only [pr_run, out, oR, sSeq, sIf, eP, ePk, ePkT, eFr, frzS, frz1, shE, VH.shS_sh, VH.shS_lst, VH.shS_dic, VH.shS_scr, VH.shS_none, pVar, pC, pBin, pChain, pUn, pMap, pB, pTru, pNN, pNNo, pAnd, pOr, pNot, pAndV, pOrV, pNotV, pIf, pNil, pCons, pAll, pPart, pPart0, pSl, pM1, pSeq, pSeq2, pCall_pr, pGet2, pGet3, isDic, Pr.bind, Pr.lift, eAnd, eOr, eNot, eB, bnd, eBin, eUn, eSub, eC, VH.ret, lift, eVar, eSh, eFz, sSet, sRet, sPut, sAsg, sPar, sPar3, sFz, tgN, tgT, tgSeq, eAll, eCons, eNil, eIf, sDo, sApp, sExt, sNext, oLst, oAdd, oIf, oList, oDic0, eMov, eSl, ePart, eCallU, aNil, aVal, aBor, takeA, putA, sRaise, List.getElem?_cons_zero, List.getElem?_cons_succ, List.set_cons_zero, List.set_cons_succ, Nat.reduceSub, Nat.reduceAdd, Nat.reduceLT, Nat.reduceLeDiff, Option.bind, Option.map, O.fzb, O.fzbK, fz, blD, VH.isN_none, VH.isN_int, VH.isN_str, VH.isN_bool, VH.isN_tup, VH.isN_lst, VH.isN_dic, vi_int, vi_bool, vi_str, vi_tuple, vi_list, vi_dict, truD, flR, flRA, List.map_cons, List.map_nil, List.replicate, List.cons_append, List.nil_append, List.length_cons, List.length_nil, if_true, if_false, ite_true, ite_false, Bool.false_eq_true, decide_true, decide_false, beq_self_eq_true, Bool.not_true, Bool.not_false, and_self, and_true, true_and, and_false, false_and, Bool.or_true, Bool.true_or, Bool.or_false, Bool.false_or, Bool.and_true, Bool.and_false, Bool.true_and, Bool.false_and, ne_eq, not_false_eq_true, not_true_eq_false, reduceCtorEq, VH.eq_str, VH.ne_str, VH.eq_int, VH.ne_int, VH.add_int, VH.le_int, VH.lt_int, VH.gt_int, VH.ge_int, VH.ixt0, VH.ixt1, VH.ixt2, VH.ixl0, VH.ixl1, VH.tup0, VH.tup1, VH.tup2, VH.tup3, VH.lst0, VH.lst1, VH.lst2, VH.lst3, VH.len_list, VH.len_tuple, VH.items_list, VH.items_tuple, fzb_tk, fz_tk, ix_l, ix_s, ix_x, hp, e1, e2, e3, e4, e5, e6, e7, tk_len, pt_x, int_int, ko_x, mask]
  · unfold preT
    by_cases h1 : T.left = 0
    · have h1b : (T.left == 0) = true := by simp [h1]
      by_cases h2 : T.at_ < T.cells.length
      · rw [if_pos ⟨h1, h2⟩]
        unfold tapeO
        have h2b : decide ((T.at_ : Int) < T.cells.length) = true := by simp [h2]
        have e : T.cells.getD T.at_ 0 = T.cells[T.at_] := by simp [h2]
        have e2 := idx_cells h2
        simp only [pr_run, out, oR, sSeq, sIf, eP, ePk, ePkT, eFr, frzS, frz1, shE, VH.shS_sh, VH.shS_lst, VH.shS_dic, VH.shS_scr, VH.shS_none, pVar, pC, pBin, pChain, pUn, pMap, pB, pTru, pNN, pNNo, pAnd, pOr, pNot, pAndV, pOrV, pNotV, pIf, pNil, pCons, pAll, pPart, pPart0, pSl, pM1, pSeq, pSeq2, pCall_pr, pGet2, pGet3, isDic, Pr.bind, Pr.lift, eAnd, eOr, eNot, eB, bnd, eBin, eUn, eSub, eC, VH.ret, lift, eVar, eSh, eFz, sSet, sRet, sPut, sAsg, sPar, sPar3, sFz, tgN, tgT, tgSeq, eAll, eCons, eNil, eIf, sDo, sApp, sExt, sNext, oLst, oAdd, oIf, oList, oDic0, eMov, eSl, ePart, eCallU, aNil, aVal, aBor, takeA, putA, sRaise, List.getElem?_cons_zero, List.getElem?_cons_succ, List.set_cons_zero, List.set_cons_succ, Nat.reduceSub, Nat.reduceAdd, Nat.reduceLT, Nat.reduceLeDiff, Option.bind, Option.map, O.fzb, O.fzbK, fz, blD, VH.isN_none, VH.isN_int, VH.isN_str, VH.isN_bool, VH.isN_tup, VH.isN_lst, VH.isN_dic, vi_int, vi_bool, vi_str, vi_tuple, vi_list, vi_dict, truD, flR, flRA, List.map_cons, List.map_nil, List.replicate, List.cons_append, List.nil_append, List.length_cons, List.length_nil, if_true, if_false, ite_true, ite_false, Bool.false_eq_true, decide_true, decide_false, beq_self_eq_true, Bool.not_true, Bool.not_false, and_self, and_true, true_and, and_false, false_and, Bool.or_true, Bool.true_or, Bool.or_false, Bool.false_or, Bool.and_true, Bool.and_false, Bool.true_and, Bool.false_and, ne_eq, not_false_eq_true, not_true_eq_false, reduceCtorEq, VH.eq_str, VH.ne_str, VH.eq_int, VH.ne_int, VH.add_int, VH.le_int, VH.lt_int, VH.gt_int, VH.ge_int, VH.ixt0, VH.ixt1, VH.ixt2, VH.ixl0, VH.ixl1, VH.tup0, VH.tup1, VH.tup2, VH.tup3, VH.lst0, VH.lst1, VH.lst2, VH.lst3, VH.len_list, VH.len_tuple, VH.items_list, VH.items_tuple, fzb_tk, fz_tk, ix_l, ix_a, ix_c, h1b, h2b, List.length_map, e2, tk_len, pt_l, pt_a, e, Int.natCast_add, Int.natCast_one, ko_l, ko_a]
      · rw [if_neg fun q => h2 q.2]
        unfold tapeO
        have h2b : decide ((T.at_ : Int) < T.cells.length) = false := by simp; omega
        simp only [pr_run, out, oR, sSeq, sIf, eP, ePk, ePkT, eFr, frzS, frz1, shE, VH.shS_sh, VH.shS_lst, VH.shS_dic, VH.shS_scr, VH.shS_none, pVar, pC, pBin, pChain, pUn, pMap, pB, pTru, pNN, pNNo, pAnd, pOr, pNot, pAndV, pOrV, pNotV, pIf, pNil, pCons, pAll, pPart, pPart0, pSl, pM1, pSeq, pSeq2, pCall_pr, pGet2, pGet3, isDic, Pr.bind, Pr.lift, eAnd, eOr, eNot, eB, bnd, eBin, eUn, eSub, eC, VH.ret, lift, eVar, eSh, eFz, sSet, sRet, sPut, sAsg, sPar, sPar3, sFz, tgN, tgT, tgSeq, eAll, eCons, eNil, eIf, sDo, sApp, sExt, sNext, oLst, oAdd, oIf, oList, oDic0, eMov, eSl, ePart, eCallU, aNil, aVal, aBor, takeA, putA, sRaise, List.getElem?_cons_zero, List.getElem?_cons_succ, List.set_cons_zero, List.set_cons_succ, Nat.reduceSub, Nat.reduceAdd, Nat.reduceLT, Nat.reduceLeDiff, Option.bind, Option.map, O.fzb, O.fzbK, fz, blD, VH.isN_none, VH.isN_int, VH.isN_str, VH.isN_bool, VH.isN_tup, VH.isN_lst, VH.isN_dic, vi_int, vi_bool, vi_str, vi_tuple, vi_list, vi_dict, truD, flR, flRA, List.map_cons, List.map_nil, List.replicate, List.cons_append, List.nil_append, List.length_cons, List.length_nil, if_true, if_false, ite_true, ite_false, Bool.false_eq_true, decide_true, decide_false, beq_self_eq_true, Bool.not_true, Bool.not_false, and_self, and_true, true_and, and_false, false_and, Bool.or_true, Bool.true_or, Bool.or_false, Bool.false_or, Bool.and_true, Bool.and_false, Bool.true_and, Bool.false_and, ne_eq, not_false_eq_true, not_true_eq_false, reduceCtorEq, VH.eq_str, VH.ne_str, VH.eq_int, VH.ne_int, VH.add_int, VH.le_int, VH.lt_int, VH.gt_int, VH.ge_int, VH.ixt0, VH.ixt1, VH.ixt2, VH.ixl0, VH.ixl1, VH.tup0, VH.tup1, VH.tup2, VH.tup3, VH.lst0, VH.lst1, VH.lst2, VH.lst3, VH.len_list, VH.len_tuple, VH.items_list, VH.items_tuple, fzb_tk, fz_tk, ix_l, ix_a, ix_c, h1b, h2b, List.length_map]
    · rw [if_neg fun q => h1 q.1]
      unfold tapeO
      have e : (T.left == 0) = false := by simp [h1]
      simp only [pr_run, out, oR, sSeq, sIf, eP, ePk, ePkT, eFr, frzS, frz1, shE, VH.shS_sh, VH.shS_lst, VH.shS_dic, VH.shS_scr, VH.shS_none, pVar, pC, pBin, pChain, pUn, pMap, pB, pTru, pNN, pNNo, pAnd, pOr, pNot, pAndV, pOrV, pNotV, pIf, pNil, pCons, pAll, pPart, pPart0, pSl, pM1, pSeq, pSeq2, pCall_pr, pGet2, pGet3, isDic, Pr.bind, Pr.lift, eAnd, eOr, eNot, eB, bnd, eBin, eUn, eSub, eC, VH.ret, lift, eVar, eSh, eFz, sSet, sRet, sPut, sAsg, sPar, sPar3, sFz, tgN, tgT, tgSeq, eAll, eCons, eNil, eIf, sDo, sApp, sExt, sNext, oLst, oAdd, oIf, oList, oDic0, eMov, eSl, ePart, eCallU, aNil, aVal, aBor, takeA, putA, sRaise, List.getElem?_cons_zero, List.getElem?_cons_succ, List.set_cons_zero, List.set_cons_succ, Nat.reduceSub, Nat.reduceAdd, Nat.reduceLT, Nat.reduceLeDiff, Option.bind, Option.map, O.fzb, O.fzbK, fz, blD, VH.isN_none, VH.isN_int, VH.isN_str, VH.isN_bool, VH.isN_tup, VH.isN_lst, VH.isN_dic, vi_int, vi_bool, vi_str, vi_tuple, vi_list, vi_dict, truD, flR, flRA, List.map_cons, List.map_nil, List.replicate, List.cons_append, List.nil_append, List.length_cons, List.length_nil, if_true, if_false, ite_true, ite_false, Bool.false_eq_true, decide_true, decide_false, beq_self_eq_true, Bool.not_true, Bool.not_false, and_self, and_true, true_and, and_false, false_and, Bool.or_true, Bool.true_or, Bool.or_false, Bool.false_or, Bool.and_true, Bool.and_false, Bool.true_and, Bool.false_and, ne_eq, not_false_eq_true, not_true_eq_false, reduceCtorEq, VH.eq_str, VH.ne_str, VH.eq_int, VH.ne_int, VH.add_int, VH.le_int, VH.lt_int, VH.gt_int, VH.ge_int, VH.ixt0, VH.ixt1, VH.ixt2, VH.ixl0, VH.ixl1, VH.tup0, VH.tup1, VH.tup2, VH.tup3, VH.lst0, VH.lst1, VH.lst2, VH.lst3, VH.len_list, VH.len_tuple, VH.items_list, VH.items_tuple, fzb_tk, fz_tk, ix_l, e]
theorem take_ex (T : Tape) {m : Int} (h : 0 < m) (hm : m < 2 ^ 64) : ∃ (r : Nat) (T' : Tape), r__law_take [tapeO T, .sh (.int m)] = .ok (.sh (.int r)) [some (tapeO T'), none] ∧ (r : Int) < m := by
  have h0 : m.natAbs ≠ 0 := by omega
  have : m.natAbs.log2 < 64 := (Nat.log2_lt h0).mpr (by omega)
  have lo := takeT_lo T h
  refine ⟨(takeT T m).1.toNat, (takeT T m).2, ?_, ?_⟩
  · rw [take_ok T h (by omega), Int.toNat_of_nonneg lo]
  · rw [Int.toNat_of_nonneg lo]; exact takeT_hi T h
/-! ### what is drawn -/
def Small (b nl : Bool) : Val → Prop
  | none => nl = true
  | some (.inl i) => b = true ∧ 0 ≤ i ∧ i < 4
  | some (.inr x) => b = false ∧ (x = Str.ofString "x" ∨ x = Str.ofString "y" ∨ x = Str.ofString "z")
theorem xyz0 : idxD (.str (Str.ofString "xyz")) (.int (0 : Nat)) = some (.str (Str.ofString "x")) := by rfl
theorem xyz1 : idxD (.str (Str.ofString "xyz")) (.int (1 : Nat)) = some (.str (Str.ofString "y")) := by rfl
theorem xyz2 : idxD (.str (Str.ofString "xyz")) (.int (2 : Nat)) = some (.str (Str.ofString "z")) := by rfl
theorem xyz_ex {r : Nat} (h : r < 3) : ∃ x, idxD (.str (Str.ofString "xyz")) (.int r) = some (.str x) ∧ (x = Str.ofString "x" ∨ x = Str.ofString "y" ∨ x = Str.ofString "z") := by
  rcases (show r = 0 ∨ r = 1 ∨ r = 2 by omega) with rfl | rfl | rfl
  · exact ⟨_, xyz0, .inl rfl⟩
  · exact ⟨_, xyz1, .inr (.inl rfl)⟩
  · exact ⟨_, xyz2, .inr (.inr rfl)⟩
theorem small_ex (T : Tape) (b nl : Bool) : ∃ (v : Val) (T' : Tape), r__law_small [tapeO T, .sh (.str (kindS b)), .sh (.bool nl)] = .ok (.sh (vD v)) [some (tapeO T'), none, none] ∧ Small b nl v := by
  obtain ⟨r, T1, e1, hr⟩ := take_ex T (m := 5) (by decide) (by decide)
  have key : ∀ T1 : Tape, ∃ (v : Val) (T' : Tape), sRet (eSh (eIf (eP (pB (pBin eqD (pVar 1) (pC (.str (Str.ofString "int")))))) (eFz (eCallU r__law_take (aBor 0 (aVal (eP (pC (.int 4))) (aNil))))) (eBin idxD (eP (pC (.str (Str.ofString "xyz")))) (eFz (eCallU r__law_take (aBor 0 (aVal (eP (pC (.int 3))) (aNil)))))))) [some (tapeO T1), some (.sh (.str (kindS b))), some (.sh (.bool nl))] =
      .ok (.ret (.sh (vD v))) [some (tapeO T'), some (.sh (.str (kindS b))), some (.sh (.bool nl))] ∧ Small b nl v := by
    intro T1
    have hk := kindS_int b
    cases b with
    | true =>
      obtain ⟨r, T2, e2, hr⟩ := take_ex T1 (m := 4) (by decide) (by decide)
      refine ⟨some (.inl r), T2, ?_, rfl, by omega, by omega⟩
      simp only [pr_run, out, oR, sSeq, sIf, eP, ePk, ePkT, eFr, frzS, frz1, shE, VH.shS_sh, VH.shS_lst, VH.shS_dic, VH.shS_scr, VH.shS_none, pVar, pC, pBin, pChain, pUn, pMap, pB, pTru, pNN, pNNo, pAnd, pOr, pNot, pAndV, pOrV, pNotV, pIf, pNil, pCons, pAll, pPart, pPart0, pSl, pM1, pSeq, pSeq2, pCall_pr, pGet2, pGet3, isDic, Pr.bind, Pr.lift, eAnd, eOr, eNot, eB, bnd, eBin, eUn, eSub, eC, VH.ret, lift, eVar, eSh, eFz, sSet, sRet, sPut, sAsg, sPar, sPar3, sFz, tgN, tgT, tgSeq, eAll, eCons, eNil, eIf, sDo, sApp, sExt, sNext, oLst, oAdd, oIf, oList, oDic0, eMov, eSl, ePart, eCallU, aNil, aVal, aBor, takeA, putA, sRaise, List.getElem?_cons_zero, List.getElem?_cons_succ, List.set_cons_zero, List.set_cons_succ, Nat.reduceSub, Nat.reduceAdd, Nat.reduceLT, Nat.reduceLeDiff, Option.bind, Option.map, O.fzb, O.fzbK, fz, blD, VH.isN_none, VH.isN_int, VH.isN_str, VH.isN_bool, VH.isN_tup, VH.isN_lst, VH.isN_dic, vi_int, vi_bool, vi_str, vi_tuple, vi_list, vi_dict, truD, flR, flRA, List.map_cons, List.map_nil, List.replicate, List.cons_append, List.nil_append, List.length_cons, List.length_nil, if_true, if_false, ite_true, ite_false, Bool.false_eq_true, decide_true, decide_false, beq_self_eq_true, Bool.not_true, Bool.not_false, and_self, and_true, true_and, and_false, false_and, Bool.or_true, Bool.true_or, Bool.or_false, Bool.false_or, Bool.and_true, Bool.and_false, Bool.true_and, Bool.false_and, ne_eq, not_false_eq_true, not_true_eq_false, reduceCtorEq, VH.eq_str, VH.ne_str, VH.eq_int, VH.ne_int, VH.add_int, VH.le_int, VH.lt_int, VH.gt_int, VH.ge_int, VH.ixt0, VH.ixt1, VH.ixt2, VH.ixl0, VH.ixl1, VH.tup0, VH.tup1, VH.tup2, VH.tup3, VH.lst0, VH.lst1, VH.lst2, VH.lst3, VH.len_list, VH.len_tuple, VH.items_list, VH.items_tuple, hk, e2, vD, kD]
    | false =>
      obtain ⟨r, T2, e2, hr⟩ := take_ex T1 (m := 3) (by decide) (by decide)
      obtain ⟨x, ex, hx⟩ := xyz_ex (r := r) (by omega)
      refine ⟨some (.inr x), T2, ?_, rfl, hx⟩
      simp only [pr_run, out, oR, sSeq, sIf, eP, ePk, ePkT, eFr, frzS, frz1, shE, VH.shS_sh, VH.shS_lst, VH.shS_dic, VH.shS_scr, VH.shS_none, pVar, pC, pBin, pChain, pUn, pMap, pB, pTru, pNN, pNNo, pAnd, pOr, pNot, pAndV, pOrV, pNotV, pIf, pNil, pCons, pAll, pPart, pPart0, pSl, pM1, pSeq, pSeq2, pCall_pr, pGet2, pGet3, isDic, Pr.bind, Pr.lift, eAnd, eOr, eNot, eB, bnd, eBin, eUn, eSub, eC, VH.ret, lift, eVar, eSh, eFz, sSet, sRet, sPut, sAsg, sPar, sPar3, sFz, tgN, tgT, tgSeq, eAll, eCons, eNil, eIf, sDo, sApp, sExt, sNext, oLst, oAdd, oIf, oList, oDic0, eMov, eSl, ePart, eCallU, aNil, aVal, aBor, takeA, putA, sRaise, List.getElem?_cons_zero, List.getElem?_cons_succ, List.set_cons_zero, List.set_cons_succ, Nat.reduceSub, Nat.reduceAdd, Nat.reduceLT, Nat.reduceLeDiff, Option.bind, Option.map, O.fzb, O.fzbK, fz, blD, VH.isN_none, VH.isN_int, VH.isN_str, VH.isN_bool, VH.isN_tup, VH.isN_lst, VH.isN_dic, vi_int, vi_bool, vi_str, vi_tuple, vi_list, vi_dict, truD, flR, flRA, List.map_cons, List.map_nil, List.replicate, List.cons_append, List.nil_append, List.length_cons, List.length_nil, if_true, if_false, ite_true, ite_false, Bool.false_eq_true, decide_true, decide_false, beq_self_eq_true, Bool.not_true, Bool.not_false, and_self, and_true, true_and, and_false, false_and, Bool.or_true, Bool.true_or, Bool.or_false, Bool.false_or, Bool.and_true, Bool.and_false, Bool.true_and, Bool.false_and, ne_eq, not_false_eq_true, not_true_eq_false, reduceCtorEq, VH.eq_str, VH.ne_str, VH.eq_int, VH.ne_int, VH.add_int, VH.le_int, VH.lt_int, VH.gt_int, VH.ge_int, VH.ixt0, VH.ixt1, VH.ixt2, VH.ixl0, VH.ixl1, VH.tup0, VH.tup1, VH.tup2, VH.tup3, VH.lst0, VH.lst1, VH.lst2, VH.lst3, VH.len_list, VH.len_tuple, VH.items_list, VH.items_tuple, hk, e2, ex, vD, kD]
  unfold r__law_small fnRun b__law_small
  simp only [List.map_cons, List.map_nil, List.length_cons, List.length_nil, Nat.reduceSub, Nat.reduceAdd, List.replicate, List.cons_append, List.nil_append]
  cases nl with
  | false =>
    obtain ⟨v, T', e, hv⟩ := key T
    refine ⟨v, T', ?_, hv⟩
    rw [seq_ok (e := [some (tapeO T), some (.sh (.str (kindS b))), some (.sh (.bool false))])]
    · rw [e]; rfl
    · simp only [pr_run, out, oR, sSeq, sIf, eP, ePk, ePkT, eFr, frzS, frz1, shE, VH.shS_sh, VH.shS_lst, VH.shS_dic, VH.shS_scr, VH.shS_none, pVar, pC, pBin, pChain, pUn, pMap, pB, pTru, pNN, pNNo, pAnd, pOr, pNot, pAndV, pOrV, pNotV, pIf, pNil, pCons, pAll, pPart, pPart0, pSl, pM1, pSeq, pSeq2, pCall_pr, pGet2, pGet3, isDic, Pr.bind, Pr.lift, eAnd, eOr, eNot, eB, bnd, eBin, eUn, eSub, eC, VH.ret, lift, eVar, eSh, eFz, sSet, sRet, sPut, sAsg, sPar, sPar3, sFz, tgN, tgT, tgSeq, eAll, eCons, eNil, eIf, sDo, sApp, sExt, sNext, oLst, oAdd, oIf, oList, oDic0, eMov, eSl, ePart, eCallU, aNil, aVal, aBor, takeA, putA, sRaise, List.getElem?_cons_zero, List.getElem?_cons_succ, List.set_cons_zero, List.set_cons_succ, Nat.reduceSub, Nat.reduceAdd, Nat.reduceLT, Nat.reduceLeDiff, Option.bind, Option.map, O.fzb, O.fzbK, fz, blD, VH.isN_none, VH.isN_int, VH.isN_str, VH.isN_bool, VH.isN_tup, VH.isN_lst, VH.isN_dic, vi_int, vi_bool, vi_str, vi_tuple, vi_list, vi_dict, truD, flR, flRA, List.map_cons, List.map_nil, List.replicate, List.cons_append, List.nil_append, List.length_cons, List.length_nil, if_true, if_false, ite_true, ite_false, Bool.false_eq_true, decide_true, decide_false, beq_self_eq_true, Bool.not_true, Bool.not_false, and_self, and_true, true_and, and_false, false_and, Bool.or_true, Bool.true_or, Bool.or_false, Bool.false_or, Bool.and_true, Bool.and_false, Bool.true_and, Bool.false_and, ne_eq, not_false_eq_true, not_true_eq_false, reduceCtorEq, VH.eq_str, VH.ne_str, VH.eq_int, VH.ne_int, VH.add_int, VH.le_int, VH.lt_int, VH.gt_int, VH.ge_int, VH.ixt0, VH.ixt1, VH.ixt2, VH.ixl0, VH.ixl1, VH.tup0, VH.tup1, VH.tup2, VH.tup3, VH.lst0, VH.lst1, VH.lst2, VH.lst3, VH.len_list, VH.len_tuple, VH.items_list, VH.items_tuple]
  | true =>
    by_cases h0 : r = 0
    · refine ⟨none, T1, ?_, rfl⟩
      subst h0
      rw [seq_ret (o := .sh .none) (e := [some (tapeO T1), some (.sh (.str (kindS b))), some (.sh (.bool true))])]
      · rfl
      · have : (((0 : Nat) : Int) == 0) = true := rfl
        simp only [pr_run, out, oR, sSeq, sIf, eP, ePk, ePkT, eFr, frzS, frz1, shE, VH.shS_sh, VH.shS_lst, VH.shS_dic, VH.shS_scr, VH.shS_none, pVar, pC, pBin, pChain, pUn, pMap, pB, pTru, pNN, pNNo, pAnd, pOr, pNot, pAndV, pOrV, pNotV, pIf, pNil, pCons, pAll, pPart, pPart0, pSl, pM1, pSeq, pSeq2, pCall_pr, pGet2, pGet3, isDic, Pr.bind, Pr.lift, eAnd, eOr, eNot, eB, bnd, eBin, eUn, eSub, eC, VH.ret, lift, eVar, eSh, eFz, sSet, sRet, sPut, sAsg, sPar, sPar3, sFz, tgN, tgT, tgSeq, eAll, eCons, eNil, eIf, sDo, sApp, sExt, sNext, oLst, oAdd, oIf, oList, oDic0, eMov, eSl, ePart, eCallU, aNil, aVal, aBor, takeA, putA, sRaise, List.getElem?_cons_zero, List.getElem?_cons_succ, List.set_cons_zero, List.set_cons_succ, Nat.reduceSub, Nat.reduceAdd, Nat.reduceLT, Nat.reduceLeDiff, Option.bind, Option.map, O.fzb, O.fzbK, fz, blD, VH.isN_none, VH.isN_int, VH.isN_str, VH.isN_bool, VH.isN_tup, VH.isN_lst, VH.isN_dic, vi_int, vi_bool, vi_str, vi_tuple, vi_list, vi_dict, truD, flR, flRA, List.map_cons, List.map_nil, List.replicate, List.cons_append, List.nil_append, List.length_cons, List.length_nil, if_true, if_false, ite_true, ite_false, Bool.false_eq_true, decide_true, decide_false, beq_self_eq_true, Bool.not_true, Bool.not_false, and_self, and_true, true_and, and_false, false_and, Bool.or_true, Bool.true_or, Bool.or_false, Bool.false_or, Bool.and_true, Bool.and_false, Bool.true_and, Bool.false_and, ne_eq, not_false_eq_true, not_true_eq_false, reduceCtorEq, VH.eq_str, VH.ne_str, VH.eq_int, VH.ne_int, VH.add_int, VH.le_int, VH.lt_int, VH.gt_int, VH.ge_int, VH.ixt0, VH.ixt1, VH.ixt2, VH.ixl0, VH.ixl1, VH.tup0, VH.tup1, VH.tup2, VH.tup3, VH.lst0, VH.lst1, VH.lst2, VH.lst3, VH.len_list, VH.len_tuple, VH.items_list, VH.items_tuple, e1, this]
    · obtain ⟨v, T', e, hv⟩ := key T1
      refine ⟨v, T', ?_, hv⟩
      rw [seq_ok (e := [some (tapeO T1), some (.sh (.str (kindS b))), some (.sh (.bool true))])]
      · rw [e]; rfl
      · have : ((r : Int) == 0) = false := by simp; omega
        simp only [pr_run, out, oR, sSeq, sIf, eP, ePk, ePkT, eFr, frzS, frz1, shE, VH.shS_sh, VH.shS_lst, VH.shS_dic, VH.shS_scr, VH.shS_none, pVar, pC, pBin, pChain, pUn, pMap, pB, pTru, pNN, pNNo, pAnd, pOr, pNot, pAndV, pOrV, pNotV, pIf, pNil, pCons, pAll, pPart, pPart0, pSl, pM1, pSeq, pSeq2, pCall_pr, pGet2, pGet3, isDic, Pr.bind, Pr.lift, eAnd, eOr, eNot, eB, bnd, eBin, eUn, eSub, eC, VH.ret, lift, eVar, eSh, eFz, sSet, sRet, sPut, sAsg, sPar, sPar3, sFz, tgN, tgT, tgSeq, eAll, eCons, eNil, eIf, sDo, sApp, sExt, sNext, oLst, oAdd, oIf, oList, oDic0, eMov, eSl, ePart, eCallU, aNil, aVal, aBor, takeA, putA, sRaise, List.getElem?_cons_zero, List.getElem?_cons_succ, List.set_cons_zero, List.set_cons_succ, Nat.reduceSub, Nat.reduceAdd, Nat.reduceLT, Nat.reduceLeDiff, Option.bind, Option.map, O.fzb, O.fzbK, fz, blD, VH.isN_none, VH.isN_int, VH.isN_str, VH.isN_bool, VH.isN_tup, VH.isN_lst, VH.isN_dic, vi_int, vi_bool, vi_str, vi_tuple, vi_list, vi_dict, truD, flR, flRA, List.map_cons, List.map_nil, List.replicate, List.cons_append, List.nil_append, List.length_cons, List.length_nil, if_true, if_false, ite_true, ite_false, Bool.false_eq_true, decide_true, decide_false, beq_self_eq_true, Bool.not_true, Bool.not_false, and_self, and_true, true_and, and_false, false_and, Bool.or_true, Bool.true_or, Bool.or_false, Bool.false_or, Bool.and_true, Bool.and_false, Bool.true_and, Bool.false_and, ne_eq, not_false_eq_true, not_true_eq_false, reduceCtorEq, VH.eq_str, VH.ne_str, VH.eq_int, VH.ne_int, VH.add_int, VH.le_int, VH.lt_int, VH.gt_int, VH.ge_int, VH.ixt0, VH.ixt1, VH.ixt2, VH.ixl0, VH.ixl1, VH.tup0, VH.tup1, VH.tup2, VH.tup3, VH.lst0, VH.lst1, VH.lst2, VH.lst3, VH.len_list, VH.len_tuple, VH.items_list, VH.items_tuple, e1, this]
end VC
set_option Elab.async false
set_option linter.all false
set_option maxRecDepth 100000
set_option maxHeartbeats 4000000
namespace VC
open PySem PySem.Spec PyProof.Rows L2 VH
def tabs : List Str := [Str.ofString "p", Str.ofString "q2", Str.ofString "r"]
def cnms : List Str := [Str.ofString "a", Str.ofString "b", Str.ofString "c"]
theorem tabs_nd : tabs.Nodup := by decide +kernel
/-- a table of the law's -/
structure WCols (cs : List Col) : Prop where
  ex : ∃ (b : Bool) (rest : List Col) (k : Nat), cs = ⟨Str.ofString "id", b, false⟩ :: rest ∧ k ≤ 3 ∧ rest.map (·.name) = cnms.take k
structure WSch (s : Sch) : Prop where
  ne : 1 ≤ s.length
  nm : ∃ k, k ≤ 3 ∧ s.map (·.1) = tabs.take k
  cs : ∀ p ∈ s, WCols p.2
def scO (s : Sch) : List (Key × O) := s.map fun p => (.inr p.1, .sh (tbD p.2))
theorem fz_sc : ∀ s : Sch, fzK (scO s) = s.map fun p => (PyData.str p.1, tbD p.2)
  | [] => rfl
  | p :: s => by
    show (kD (.inr p.1), fz (.sh (tbD p.2))) :: fzK (scO s) = _
    rw [fz_sc s]; rfl
theorem fzb_sc : ∀ s : Sch, O.fzbK (scO s) = true
  | [] => rfl
  | p :: s => by
    show (true && O.fzbK (scO s)) = true
    rw [fzb_sc s]; rfl
theorem dic_tb (X : D) : dicD [(.str (Str.ofString "columns"), X), (.str (Str.ofString "checks"), .list []), (.str (Str.ofString "uniques"), .list []), (.str (Str.ofString "references"), .list [])] =
    some (.dict [(.str (Str.ofString "columns"), X), (.str (Str.ofString "checks"), .list []), (.str (Str.ofString "uniques"), .list []), (.str (Str.ofString "references"), .list [])]) := by rfl
theorem kt0 : idxD (.list [.str (Str.ofString "int"), .str (Str.ofString "text")]) (.int (0 : Nat)) = some (.str (kindS true)) := by rfl
theorem kt1 : idxD (.list [.str (Str.ofString "int"), .str (Str.ofString "text")]) (.int (1 : Nat)) = some (.str (kindS false)) := by rfl
theorem kt_ex {r : Nat} (h : r < 2) : ∃ b, idxD (.list [.str (Str.ofString "int"), .str (Str.ofString "text")]) (.int r) = some (.str (kindS b)) := by
  rcases (show r = 0 ∨ r = 1 by omega) with rfl | rfl
  · exact ⟨_, kt0⟩
  · exact ⟨_, kt1⟩
theorem ku0 : idxD (.list [.str (Str.ofString "int"), .str (Str.ofString "int"), .str (Str.ofString "text")]) (.int (0 : Nat)) = some (.str (kindS true)) := by rfl
theorem ku1 : idxD (.list [.str (Str.ofString "int"), .str (Str.ofString "int"), .str (Str.ofString "text")]) (.int (1 : Nat)) = some (.str (kindS true)) := by rfl
theorem ku2 : idxD (.list [.str (Str.ofString "int"), .str (Str.ofString "int"), .str (Str.ofString "text")]) (.int (2 : Nat)) = some (.str (kindS false)) := by rfl
theorem ku_ex {r : Nat} (h : r < 3) : ∃ b, idxD (.list [.str (Str.ofString "int"), .str (Str.ofString "int"), .str (Str.ofString "text")]) (.int r) = some (.str (kindS b)) := by
  rcases (show r = 0 ∨ r = 1 ∨ r = 2 by omega) with rfl | rfl | rfl
  · exact ⟨_, ku0⟩
  · exact ⟨_, ku1⟩
  · exact ⟨_, ku2⟩
theorem line_1000 {n : Nat} (h : n ≤ 1000) : n < sizeLine := small1000 h
theorem ps_cols (T : Tape) (u1 u2 u4 : Option O) (b : Bool) : ∃ (T' : Tape) (rest : List Col) (k : Nat) (v4 : Option O), k ≤ 3 ∧ rest.map (·.name) = cnms.take k ∧
    sFor (eSeq (eSl (eP (pAll lstD (pCons (pC (.str (Str.ofString "a"))) (pCons (pC (.str (Str.ofString "b"))) (pCons (pC (.str (Str.ofString "c"))) (pNil)))))) (VH.ret none) (ePart (eFz (eCallU r__law_take (aBor 0 (aVal (eP (pC (.int 4))) (aNil)))))))) (tgN 4) (L1__law_plain_schema r__law_take)
      [some (tapeO T), u1, u2, some (.lst [colD ⟨Str.ofString "id", b, false⟩]), u4] = .ok .nx [some (tapeO T'), u1, u2, some (.lst ((⟨Str.ofString "id", b, false⟩ :: rest).map colD)), v4] := by
  obtain ⟨k, T1, e1, hk⟩ := take_ex T (m := 4) (by decide) (by decide)
  have hs := sl_take (k := k) [.str (Str.ofString "a"), .str (Str.ofString "b"), .str (Str.ofString "c")]
  have hm : [PyData.str (Str.ofString "a"), .str (Str.ofString "b"), .str (Str.ofString "c")].take k = (cnms.take k).map .str := by
    rw [List.map_take]; rfl
  rw [hm] at hs
  obtain ⟨env', h1, T2, rest, v4, rfl, hn⟩ := loop_ex (e := PyData.str) (tg := tgN 4) (body := L1__law_plain_schema r__law_take) (all := cnms.take k)
    (I := fun pre env => ∃ (T : Tape) (rest : List Col) (v4 : Option O), env = [some (tapeO T), u1, u2, some (.lst ((⟨Str.ofString "id", b, false⟩ :: rest).map colD)), v4] ∧ rest.map (·.name) = pre) (fun pre a post env hall ⟨T, rest, v4, he, hn⟩ => by
      subst he
      obtain ⟨r1, T1, e1, h1⟩ := take_ex T (m := 2) (by decide) (by decide)
      obtain ⟨r2, T2, e2, h2⟩ := take_ex T1 (m := 2) (by decide) (by decide)
      obtain ⟨b1, eb⟩ := kt_ex (r := r1) (by omega)
      have hl : rest.length ≤ 3 := by
        have := congrArg List.length hn
        rw [List.length_map] at this
        have h3 := congrArg List.length hall
        rw [List.length_append, List.length_cons, List.length_take] at h3
        have : cnms.length = 3 := rfl
        omega
      have hl2 : (((⟨Str.ofString "id", b, false⟩ : Col) :: rest).map colD).length < sizeLine := line_1000 (by simp; omega)
      refine ⟨[some (tapeO T), u1, u2, some (.lst ((⟨Str.ofString "id", b, false⟩ :: rest).map colD)), some (.sh (.str a))], [some (tapeO T2), u1, u2, some (.lst ((⟨Str.ofString "id", b, false⟩ :: (rest ++ [⟨a, b1, (r2 : Int) == 0⟩])).map colD)), some (.sh (.str a))], rfl, ?_, T2, rest ++ [⟨a, b1, (r2 : Int) == 0⟩], _, rfl, by rw [List.map_append, hn]; rfl⟩
      generalize hX : (((⟨Str.ofString "id", b, false⟩ : Col) :: rest).map colD) = X at hl2
      have hX2 : ((⟨Str.ofString "id", b, false⟩ :: (rest ++ [⟨a, b1, (r2 : Int) == 0⟩])).map colD) = X ++ [colD ⟨a, b1, (r2 : Int) == 0⟩] := by
        rw [← hX, ← List.cons_append, List.map_append]; rfl
      rw [hX2]
      simp only [pr_run, out, oR, sSeq, sIf, eP, ePk, ePkT, eFr, frzS, frz1, shE, VH.shS_sh, VH.shS_lst, VH.shS_dic, VH.shS_scr, VH.shS_none, pVar, pC, pBin, pChain, pUn, pMap, pB, pTru, pNN, pNNo, pAnd, pOr, pNot, pAndV, pOrV, pNotV, pIf, pNil, pCons, pAll, pPart, pPart0, pSl, pM1, pSeq, pSeq2, pCall_pr, pGet2, pGet3, isDic, Pr.bind, Pr.lift, eAnd, eOr, eNot, eB, bnd, eBin, eUn, eSub, eC, VH.ret, lift, eVar, eSh, eFz, sSet, sRet, sPut, sAsg, sPar, sPar3, sFz, tgN, tgT, tgSeq, eAll, eCons, eNil, eIf, sDo, sApp, sExt, sNext, oLst, oAdd, oIf, oList, oDic0, eMov, eSl, ePart, eCallU, aNil, aVal, aBor, takeA, putA, sRaise, List.getElem?_cons_zero, List.getElem?_cons_succ, List.set_cons_zero, List.set_cons_succ, Nat.reduceSub, Nat.reduceAdd, Nat.reduceLT, Nat.reduceLeDiff, Option.bind, Option.map, O.fzb, O.fzbK, fz, blD, VH.isN_none, VH.isN_int, VH.isN_str, VH.isN_bool, VH.isN_tup, VH.isN_lst, VH.isN_dic, vi_int, vi_bool, vi_str, vi_tuple, vi_list, vi_dict, truD, flR, flRA, List.map_cons, List.map_nil, List.replicate, List.cons_append, List.nil_append, List.length_cons, List.length_nil, if_true, if_false, ite_true, ite_false, Bool.false_eq_true, decide_true, decide_false, beq_self_eq_true, Bool.not_true, Bool.not_false, and_self, and_true, true_and, and_false, false_and, Bool.or_true, Bool.true_or, Bool.or_false, Bool.false_or, Bool.and_true, Bool.and_false, Bool.true_and, Bool.false_and, ne_eq, not_false_eq_true, not_true_eq_false, reduceCtorEq, VH.eq_str, VH.ne_str, VH.eq_int, VH.ne_int, VH.add_int, VH.le_int, VH.lt_int, VH.gt_int, VH.ge_int, VH.ixt0, VH.ixt1, VH.ixt2, VH.ixl0, VH.ixl1, VH.tup0, VH.tup1, VH.tup2, VH.tup3, VH.lst0, VH.lst1, VH.lst2, VH.lst3, VH.len_list, VH.len_tuple, VH.items_list, VH.items_tuple, L1__law_plain_schema, e1, e2, eb, hl2, colD]) (cnms.take k) [] [some (tapeO T1), u1, u2, some (.lst [colD ⟨Str.ofString "id", b, false⟩]), u4] rfl ⟨T1, [], u4, rfl, rfl⟩
  refine ⟨T2, rest, k, v4, by omega, hn, ?_⟩
  rw [forI_eq (items := (cnms.take k).map .str) (env1 := [some (tapeO T1), u1, u2, some (.lst [colD ⟨Str.ofString "id", b, false⟩]), u4])]
  · exact h1
  · simp only [pr_run, out, oR, sSeq, sIf, eP, ePk, ePkT, eFr, frzS, frz1, shE, VH.shS_sh, VH.shS_lst, VH.shS_dic, VH.shS_scr, VH.shS_none, pVar, pC, pBin, pChain, pUn, pMap, pB, pTru, pNN, pNNo, pAnd, pOr, pNot, pAndV, pOrV, pNotV, pIf, pNil, pCons, pAll, pPart, pPart0, pSl, pM1, pSeq, pSeq2, pCall_pr, pGet2, pGet3, isDic, Pr.bind, Pr.lift, eAnd, eOr, eNot, eB, bnd, eBin, eUn, eSub, eC, VH.ret, lift, eVar, eSh, eFz, sSet, sRet, sPut, sAsg, sPar, sPar3, sFz, tgN, tgT, tgSeq, eAll, eCons, eNil, eIf, sDo, sApp, sExt, sNext, oLst, oAdd, oIf, oList, oDic0, eMov, eSl, ePart, eCallU, aNil, aVal, aBor, takeA, putA, sRaise, List.getElem?_cons_zero, List.getElem?_cons_succ, List.set_cons_zero, List.set_cons_succ, Nat.reduceSub, Nat.reduceAdd, Nat.reduceLT, Nat.reduceLeDiff, Option.bind, Option.map, O.fzb, O.fzbK, fz, blD, VH.isN_none, VH.isN_int, VH.isN_str, VH.isN_bool, VH.isN_tup, VH.isN_lst, VH.isN_dic, vi_int, vi_bool, vi_str, vi_tuple, vi_list, vi_dict, truD, flR, flRA, List.map_cons, List.map_nil, List.replicate, List.cons_append, List.nil_append, List.length_cons, List.length_nil, if_true, if_false, ite_true, ite_false, Bool.false_eq_true, decide_true, decide_false, beq_self_eq_true, Bool.not_true, Bool.not_false, and_self, and_true, true_and, and_false, false_and, Bool.or_true, Bool.true_or, Bool.or_false, Bool.false_or, Bool.and_true, Bool.and_false, Bool.true_and, Bool.false_and, ne_eq, not_false_eq_true, not_true_eq_false, reduceCtorEq, VH.eq_str, VH.ne_str, VH.eq_int, VH.ne_int, VH.add_int, VH.le_int, VH.lt_int, VH.gt_int, VH.ge_int, VH.ixt0, VH.ixt1, VH.ixt2, VH.ixl0, VH.ixl1, VH.tup0, VH.tup1, VH.tup2, VH.tup3, VH.lst0, VH.lst1, VH.lst2, VH.lst3, VH.len_list, VH.len_tuple, VH.items_list, VH.items_tuple, eSeq, e1, hs, ixI]
theorem schema_ex (T : Tape) : ∃ (s : Sch) (T' : Tape), r__law_plain_schema [tapeO T] = .ok (.sh (scD s)) [some (tapeO T')] ∧ WSch s := by
  unfold r__law_plain_schema fnRun b__law_plain_schema
  simp only [List.map_cons, List.map_nil, List.length_cons, List.length_nil, Nat.reduceSub, Nat.reduceAdd, List.replicate, List.cons_append, List.nil_append]
  obtain ⟨k, T1, e1, hk⟩ := take_ex T (m := 3) (by decide) (by decide)
  have hs := sl_take (k := 1 + k) [.str (Str.ofString "p"), .str (Str.ofString "q2"), .str (Str.ofString "r")]
  have hm : [PyData.str (Str.ofString "p"), .str (Str.ofString "q2"), .str (Str.ofString "r")].take (1 + k) = (tabs.take (1 + k)).map .str := by
    rw [List.map_take]; rfl
  rw [hm, Int.natCast_add, Int.natCast_one] at hs
  obtain ⟨env', h1, T2, s, u2, u3, u4, rfl, hn, hw⟩ := loop_ex (e := PyData.str) (tg := tgN 2) (body := L2__law_plain_schema r__law_take) (all := tabs.take (1 + k))
    (I := fun pre env => ∃ (T : Tape) (s : Sch) (u2 u3 u4 : Option O), env = [some (tapeO T), some (.dic (scO s)), u2, u3, u4] ∧ s.map (·.1) = pre ∧ ∀ p ∈ s, WCols p.2) (fun pre a post env hall ⟨T, s, u2, u3, u4, he, hn, hw⟩ => by
      subst he
      obtain ⟨r1, T1, e1, h1⟩ := take_ex T (m := 3) (by decide) (by decide)
      obtain ⟨b, eb⟩ := ku_ex (r := r1) (by omega)
      obtain ⟨T2, rest, k2, v4, hk2, hr, e2⟩ := ps_cols T1 (some (.dic (scO s))) (some (.sh (.str a))) u4 b
      have hnd : (pre ++ a :: post).Nodup := hall ▸ tabs_nd.sublist (List.take_sublist _ _)
      have hnew : ∀ p ∈ scO s, p.1 ≠ .inr a := fun p hp q => by
        obtain ⟨x, hx, rfl⟩ := List.mem_map.mp hp
        have hx2 : x.1 ∈ pre := by rw [← hn]; exact List.mem_map.mpr ⟨x, hx, rfl⟩
        have := (List.nodup_append.mp hnd).2.2 x.1 hx2 a List.mem_cons_self
        exact this (Sum.inr.inj q)
      have hl : (scO s).length < sizeLine := line_1000 (by
        have h3 := congrArg List.length hall
        rw [List.length_append, List.length_cons, List.length_take] at h3
        have h4 := congrArg List.length hn
        rw [List.length_map] at h4
        have : tabs.length = 3 := rfl
        unfold scO
        rw [List.length_map]
        omega)
      refine ⟨[some (tapeO T), some (.dic (scO s)), some (.sh (.str a)), u3, u4], [some (tapeO T2), some (.dic (scO (s ++ [(a, ⟨Str.ofString "id", b, false⟩ :: rest)]))), some (.sh (.str a)), some (.sh (.list ((⟨Str.ofString "id", b, false⟩ :: rest).map colD))), v4], rfl, ?_, T2, s ++ [(a, ⟨Str.ofString "id", b, false⟩ :: rest)], _, _, _, rfl, by rw [List.map_append, hn]; rfl, fun p hp => ?_⟩
      · unfold L2__law_plain_schema
        rw [seq_ok (e := [some (tapeO T1), some (.dic (scO s)), some (.sh (.str a)), some (.lst [colD ⟨Str.ofString "id", b, false⟩]), u4])]
        rotate_left
        · simp only [pr_run, out, oR, sSeq, sIf, eP, ePk, ePkT, eFr, frzS, frz1, shE, VH.shS_sh, VH.shS_lst, VH.shS_dic, VH.shS_scr, VH.shS_none, pVar, pC, pBin, pChain, pUn, pMap, pB, pTru, pNN, pNNo, pAnd, pOr, pNot, pAndV, pOrV, pNotV, pIf, pNil, pCons, pAll, pPart, pPart0, pSl, pM1, pSeq, pSeq2, pCall_pr, pGet2, pGet3, isDic, Pr.bind, Pr.lift, eAnd, eOr, eNot, eB, bnd, eBin, eUn, eSub, eC, VH.ret, lift, eVar, eSh, eFz, sSet, sRet, sPut, sAsg, sPar, sPar3, sFz, tgN, tgT, tgSeq, eAll, eCons, eNil, eIf, sDo, sApp, sExt, sNext, oLst, oAdd, oIf, oList, oDic0, eMov, eSl, ePart, eCallU, aNil, aVal, aBor, takeA, putA, sRaise, List.getElem?_cons_zero, List.getElem?_cons_succ, List.set_cons_zero, List.set_cons_succ, Nat.reduceSub, Nat.reduceAdd, Nat.reduceLT, Nat.reduceLeDiff, Option.bind, Option.map, O.fzb, O.fzbK, fz, blD, VH.isN_none, VH.isN_int, VH.isN_str, VH.isN_bool, VH.isN_tup, VH.isN_lst, VH.isN_dic, vi_int, vi_bool, vi_str, vi_tuple, vi_list, vi_dict, truD, flR, flRA, List.map_cons, List.map_nil, List.replicate, List.cons_append, List.nil_append, List.length_cons, List.length_nil, if_true, if_false, ite_true, ite_false, Bool.false_eq_true, decide_true, decide_false, beq_self_eq_true, Bool.not_true, Bool.not_false, and_self, and_true, true_and, and_false, false_and, Bool.or_true, Bool.true_or, Bool.or_false, Bool.false_or, Bool.and_true, Bool.and_false, Bool.true_and, Bool.false_and, ne_eq, not_false_eq_true, not_true_eq_false, reduceCtorEq, VH.eq_str, VH.ne_str, VH.eq_int, VH.ne_int, VH.add_int, VH.le_int, VH.lt_int, VH.gt_int, VH.ge_int, VH.ixt0, VH.ixt1, VH.ixt2, VH.ixl0, VH.ixl1, VH.tup0, VH.tup1, VH.tup2, VH.tup3, VH.lst0, VH.lst1, VH.lst2, VH.lst3, VH.len_list, VH.len_tuple, VH.items_list, VH.items_tuple, e1, eb, colD]
        rw [seq_ok e2]
        generalize (⟨Str.ofString "id", b, false⟩ :: rest) = cs at *
        have hd := dic_tb (.list (cs.map colD))
        have hp := putO_new (v := .sh (tbD cs)) hnew
        have hp2 : scO s ++ [(.inr a, .sh (tbD cs))] = scO (s ++ [(a, cs)]) := by unfold scO; rw [List.map_append]; rfl
        rw [hp2] at hp
        unfold tbD at hp
        simp only [pr_run, out, oR, sSeq, sIf, eP, ePk, ePkT, eFr, frzS, frz1, shE, VH.shS_sh, VH.shS_lst, VH.shS_dic, VH.shS_scr, VH.shS_none, pVar, pC, pBin, pChain, pUn, pMap, pB, pTru, pNN, pNNo, pAnd, pOr, pNot, pAndV, pOrV, pNotV, pIf, pNil, pCons, pAll, pPart, pPart0, pSl, pM1, pSeq, pSeq2, pCall_pr, pGet2, pGet3, isDic, Pr.bind, Pr.lift, eAnd, eOr, eNot, eB, bnd, eBin, eUn, eSub, eC, VH.ret, lift, eVar, eSh, eFz, sSet, sRet, sPut, sAsg, sPar, sPar3, sFz, tgN, tgT, tgSeq, eAll, eCons, eNil, eIf, sDo, sApp, sExt, sNext, oLst, oAdd, oIf, oList, oDic0, eMov, eSl, ePart, eCallU, aNil, aVal, aBor, takeA, putA, sRaise, List.getElem?_cons_zero, List.getElem?_cons_succ, List.set_cons_zero, List.set_cons_succ, Nat.reduceSub, Nat.reduceAdd, Nat.reduceLT, Nat.reduceLeDiff, Option.bind, Option.map, O.fzb, O.fzbK, fz, blD, VH.isN_none, VH.isN_int, VH.isN_str, VH.isN_bool, VH.isN_tup, VH.isN_lst, VH.isN_dic, vi_int, vi_bool, vi_str, vi_tuple, vi_list, vi_dict, truD, flR, flRA, List.map_cons, List.map_nil, List.replicate, List.cons_append, List.nil_append, List.length_cons, List.length_nil, if_true, if_false, ite_true, ite_false, Bool.false_eq_true, decide_true, decide_false, beq_self_eq_true, Bool.not_true, Bool.not_false, and_self, and_true, true_and, and_false, false_and, Bool.or_true, Bool.true_or, Bool.or_false, Bool.false_or, Bool.and_true, Bool.and_false, Bool.true_and, Bool.false_and, ne_eq, not_false_eq_true, not_true_eq_false, reduceCtorEq, VH.eq_str, VH.ne_str, VH.eq_int, VH.ne_int, VH.add_int, VH.le_int, VH.lt_int, VH.gt_int, VH.ge_int, VH.ixt0, VH.ixt1, VH.ixt2, VH.ixl0, VH.ixl1, VH.tup0, VH.tup1, VH.tup2, VH.tup3, VH.lst0, VH.lst1, VH.lst2, VH.lst3, VH.len_list, VH.len_tuple, VH.items_list, VH.items_tuple, pDic, pPairs, hd, hl, kD_inr, hp]
      · rcases List.mem_append.mp hp with hp | hp
        · exact hw p hp
        · rw [List.mem_singleton.mp hp]
          exact ⟨b, rest, k2, rfl, hk2, hr⟩) (tabs.take (1 + k)) [] [some (tapeO T1), some (.dic (scO [])), none, none, none] rfl ⟨T1, [], none, none, none, rfl, rfl, fun _ h => nomatch h⟩
  refine ⟨s, T2, ?_, ⟨?_, ⟨1 + k, by omega, hn⟩, hw⟩⟩
  · rw [seq_ok (e := [some (tapeO T), some (.dic (scO [])), none, none, none])]
    rotate_left
    · simp only [pr_run, out, oR, sSeq, sIf, eP, ePk, ePkT, eFr, frzS, frz1, shE, VH.shS_sh, VH.shS_lst, VH.shS_dic, VH.shS_scr, VH.shS_none, pVar, pC, pBin, pChain, pUn, pMap, pB, pTru, pNN, pNNo, pAnd, pOr, pNot, pAndV, pOrV, pNotV, pIf, pNil, pCons, pAll, pPart, pPart0, pSl, pM1, pSeq, pSeq2, pCall_pr, pGet2, pGet3, isDic, Pr.bind, Pr.lift, eAnd, eOr, eNot, eB, bnd, eBin, eUn, eSub, eC, VH.ret, lift, eVar, eSh, eFz, sSet, sRet, sPut, sAsg, sPar, sPar3, sFz, tgN, tgT, tgSeq, eAll, eCons, eNil, eIf, sDo, sApp, sExt, sNext, oLst, oAdd, oIf, oList, oDic0, eMov, eSl, ePart, eCallU, aNil, aVal, aBor, takeA, putA, sRaise, List.getElem?_cons_zero, List.getElem?_cons_succ, List.set_cons_zero, List.set_cons_succ, Nat.reduceSub, Nat.reduceAdd, Nat.reduceLT, Nat.reduceLeDiff, Option.bind, Option.map, O.fzb, O.fzbK, fz, blD, VH.isN_none, VH.isN_int, VH.isN_str, VH.isN_bool, VH.isN_tup, VH.isN_lst, VH.isN_dic, vi_int, vi_bool, vi_str, vi_tuple, vi_list, vi_dict, truD, flR, flRA, List.map_cons, List.map_nil, List.replicate, List.cons_append, List.nil_append, List.length_cons, List.length_nil, if_true, if_false, ite_true, ite_false, Bool.false_eq_true, decide_true, decide_false, beq_self_eq_true, Bool.not_true, Bool.not_false, and_self, and_true, true_and, and_false, false_and, Bool.or_true, Bool.true_or, Bool.or_false, Bool.false_or, Bool.and_true, Bool.and_false, Bool.true_and, Bool.false_and, ne_eq, not_false_eq_true, not_true_eq_false, reduceCtorEq, VH.eq_str, VH.ne_str, VH.eq_int, VH.ne_int, VH.add_int, VH.le_int, VH.lt_int, VH.gt_int, VH.ge_int, VH.ixt0, VH.ixt1, VH.ixt2, VH.ixl0, VH.ixl1, VH.tup0, VH.tup1, VH.tup2, VH.tup3, VH.lst0, VH.lst1, VH.lst2, VH.lst3, VH.len_list, VH.len_tuple, VH.items_list, VH.items_tuple]
      rfl
    rw [seq_ok (e := [some (tapeO T2), some (.dic (scO s)), u2, u3, u4])]
    rotate_left
    · rw [forI_eq (items := (tabs.take (1 + k)).map .str) (env1 := [some (tapeO T1), some (.dic (scO [])), none, none, none])]
      · exact h1
      · simp only [pr_run, out, oR, sSeq, sIf, eP, ePk, ePkT, eFr, frzS, frz1, shE, VH.shS_sh, VH.shS_lst, VH.shS_dic, VH.shS_scr, VH.shS_none, pVar, pC, pBin, pChain, pUn, pMap, pB, pTru, pNN, pNNo, pAnd, pOr, pNot, pAndV, pOrV, pNotV, pIf, pNil, pCons, pAll, pPart, pPart0, pSl, pM1, pSeq, pSeq2, pCall_pr, pGet2, pGet3, isDic, Pr.bind, Pr.lift, eAnd, eOr, eNot, eB, bnd, eBin, eUn, eSub, eC, VH.ret, lift, eVar, eSh, eFz, sSet, sRet, sPut, sAsg, sPar, sPar3, sFz, tgN, tgT, tgSeq, eAll, eCons, eNil, eIf, sDo, sApp, sExt, sNext, oLst, oAdd, oIf, oList, oDic0, eMov, eSl, ePart, eCallU, aNil, aVal, aBor, takeA, putA, sRaise, List.getElem?_cons_zero, List.getElem?_cons_succ, List.set_cons_zero, List.set_cons_succ, Nat.reduceSub, Nat.reduceAdd, Nat.reduceLT, Nat.reduceLeDiff, Option.bind, Option.map, O.fzb, O.fzbK, fz, blD, VH.isN_none, VH.isN_int, VH.isN_str, VH.isN_bool, VH.isN_tup, VH.isN_lst, VH.isN_dic, vi_int, vi_bool, vi_str, vi_tuple, vi_list, vi_dict, truD, flR, flRA, List.map_cons, List.map_nil, List.replicate, List.cons_append, List.nil_append, List.length_cons, List.length_nil, if_true, if_false, ite_true, ite_false, Bool.false_eq_true, decide_true, decide_false, beq_self_eq_true, Bool.not_true, Bool.not_false, and_self, and_true, true_and, and_false, false_and, Bool.or_true, Bool.true_or, Bool.or_false, Bool.false_or, Bool.and_true, Bool.and_false, Bool.true_and, Bool.false_and, ne_eq, not_false_eq_true, not_true_eq_false, reduceCtorEq, VH.eq_str, VH.ne_str, VH.eq_int, VH.ne_int, VH.add_int, VH.le_int, VH.lt_int, VH.gt_int, VH.ge_int, VH.ixt0, VH.ixt1, VH.ixt2, VH.ixl0, VH.ixl1, VH.tup0, VH.tup1, VH.tup2, VH.tup3, VH.lst0, VH.lst1, VH.lst2, VH.lst3, VH.len_list, VH.len_tuple, VH.items_list, VH.items_tuple, eSeq, e1, hs, ixI]
    simp only [pr_run, out, oR, sSeq, sIf, eP, ePk, ePkT, eFr, frzS, frz1, shE, VH.shS_sh, VH.shS_lst, VH.shS_dic, VH.shS_scr, VH.shS_none, pVar, pC, pBin, pChain, pUn, pMap, pB, pTru, pNN, pNNo, pAnd, pOr, pNot, pAndV, pOrV, pNotV, pIf, pNil, pCons, pAll, pPart, pPart0, pSl, pM1, pSeq, pSeq2, pCall_pr, pGet2, pGet3, isDic, Pr.bind, Pr.lift, eAnd, eOr, eNot, eB, bnd, eBin, eUn, eSub, eC, VH.ret, lift, eVar, eSh, eFz, sSet, sRet, sPut, sAsg, sPar, sPar3, sFz, tgN, tgT, tgSeq, eAll, eCons, eNil, eIf, sDo, sApp, sExt, sNext, oLst, oAdd, oIf, oList, oDic0, eMov, eSl, ePart, eCallU, aNil, aVal, aBor, takeA, putA, sRaise, List.getElem?_cons_zero, List.getElem?_cons_succ, List.set_cons_zero, List.set_cons_succ, Nat.reduceSub, Nat.reduceAdd, Nat.reduceLT, Nat.reduceLeDiff, Option.bind, Option.map, O.fzb, O.fzbK, fz, blD, VH.isN_none, VH.isN_int, VH.isN_str, VH.isN_bool, VH.isN_tup, VH.isN_lst, VH.isN_dic, vi_int, vi_bool, vi_str, vi_tuple, vi_list, vi_dict, truD, flR, flRA, List.map_cons, List.map_nil, List.replicate, List.cons_append, List.nil_append, List.length_cons, List.length_nil, if_true, if_false, ite_true, ite_false, Bool.false_eq_true, decide_true, decide_false, beq_self_eq_true, Bool.not_true, Bool.not_false, and_self, and_true, true_and, and_false, false_and, Bool.or_true, Bool.true_or, Bool.or_false, Bool.false_or, Bool.and_true, Bool.and_false, Bool.true_and, Bool.false_and, ne_eq, not_false_eq_true, not_true_eq_false, reduceCtorEq, VH.eq_str, VH.ne_str, VH.eq_int, VH.ne_int, VH.add_int, VH.le_int, VH.lt_int, VH.gt_int, VH.ge_int, VH.ixt0, VH.ixt1, VH.ixt2, VH.ixl0, VH.ixl1, VH.tup0, VH.tup1, VH.tup2, VH.tup3, VH.lst0, VH.lst1, VH.lst2, VH.lst3, VH.len_list, VH.len_tuple, VH.items_list, VH.items_tuple, fzb_sc, fz_sc, mask, scD]
  · have := congrArg List.length hn
    rw [List.length_map, List.length_take] at this
    have h3 : tabs.length = 3 := rfl
    omega
end VC
set_option Elab.async false
set_option linter.all false
set_option maxRecDepth 100000
set_option maxHeartbeats 4000000
namespace VC
open PySem PySem.Spec PyProof.Rows L2 VH
def ivars : List Str := [Str.ofString "a", Str.ofString "b", Str.ofString "c"]
def tvars : List Str := [Str.ofString "s", Str.ofString "t", Str.ofString "u"]
def varsOf (b : Bool) : List Str := if b then ivars else tvars
def GTerm (c : Col) : Term → Prop
  | .any => c.null = true
  | .is v => Small c.int false v
  | .var x => x ∈ varsOf c.int
theorem names_ex (b : Bool) {r : Nat} (h : r < 3) : ∃ x, idxD (.list ((varsOf b).map .str)) (.int r) = some (.str x) ∧ x ∈ varsOf b := by
  have hl : (varsOf b).length = 3 := by cases b <;> rfl
  refine ⟨(varsOf b)[r]'(by omega), ?_, List.getElem_mem _⟩
  exact atI_nat (by rw [List.getElem?_map, List.getElem?_eq_getElem (by omega)]; rfl)
theorem tru_bool (b : Bool) : truD (.bool b) = some b := rfl
theorem term_ex (T : Tape) (c : Col) : ∃ (t : Term) (T' : Tape), r__law_term [tapeO T, .sh (colD c)] = .ok (.sh (tmD t)) [some (tapeO T'), none] ∧ GTerm c t := by
  unfold r__law_term fnRun b__law_term
  simp only [List.map_cons, List.map_nil, List.length_cons, List.length_nil, Nat.reduceSub, Nat.reduceAdd, List.replicate, List.cons_append, List.nil_append]
  obtain ⟨r, T1, e1, hr⟩ := take_ex T (m := 8) (by decide) (by decide)
  rw [seq_ok (e := [some (tapeO T1), some (.sh (colD c)), some (.sh (.int r)), none])]
  rotate_left
  · simp only [pr_run, out, oR, sSeq, sIf, eP, ePk, ePkT, eFr, frzS, frz1, shE, VH.shS_sh, VH.shS_lst, VH.shS_dic, VH.shS_scr, VH.shS_none, pVar, pC, pBin, pChain, pUn, pMap, pB, pTru, pNN, pNNo, pAnd, pOr, pNot, pAndV, pOrV, pNotV, pIf, pNil, pCons, pAll, pPart, pPart0, pSl, pM1, pSeq, pSeq2, pCall_pr, pGet2, pGet3, isDic, Pr.bind, Pr.lift, eAnd, eOr, eNot, eB, bnd, eBin, eUn, eSub, eC, VH.ret, lift, eVar, eSh, eFz, sSet, sRet, sPut, sAsg, sPar, sPar3, sFz, tgN, tgT, tgSeq, eAll, eCons, eNil, eIf, sDo, sApp, sExt, sNext, oLst, oAdd, oIf, oList, oDic0, eMov, eSl, ePart, eCallU, aNil, aVal, aBor, takeA, putA, sRaise, List.getElem?_cons_zero, List.getElem?_cons_succ, List.set_cons_zero, List.set_cons_succ, Nat.reduceSub, Nat.reduceAdd, Nat.reduceLT, Nat.reduceLeDiff, Option.bind, Option.map, O.fzb, O.fzbK, fz, blD, VH.isN_none, VH.isN_int, VH.isN_str, VH.isN_bool, VH.isN_tup, VH.isN_lst, VH.isN_dic, vi_int, vi_bool, vi_str, vi_tuple, vi_list, vi_dict, truD, flR, flRA, List.map_cons, List.map_nil, List.replicate, List.cons_append, List.nil_append, List.length_cons, List.length_nil, if_true, if_false, ite_true, ite_false, Bool.false_eq_true, decide_true, decide_false, beq_self_eq_true, Bool.not_true, Bool.not_false, and_self, and_true, true_and, and_false, false_and, Bool.or_true, Bool.true_or, Bool.or_false, Bool.false_or, Bool.and_true, Bool.and_false, Bool.true_and, Bool.false_and, ne_eq, not_false_eq_true, not_true_eq_false, reduceCtorEq, VH.eq_str, VH.ne_str, VH.eq_int, VH.ne_int, VH.add_int, VH.le_int, VH.lt_int, VH.gt_int, VH.ge_int, VH.ixt0, VH.ixt1, VH.ixt2, VH.ixl0, VH.ixl1, VH.tup0, VH.tup1, VH.tup2, VH.tup3, VH.lst0, VH.lst1, VH.lst2, VH.lst3, VH.len_list, VH.len_tuple, VH.items_list, VH.items_tuple, e1]
  by_cases h1 : c.null = true ∧ (r : Int) < 2
  · refine ⟨.any, T1, ?_, h1.1⟩
    rw [seq_ret (o := .sh .none) (e := [some (tapeO T1), some (.sh (colD c)), some (.sh (.int r)), none])]
    · rfl
    · simp only [pr_run, out, oR, sSeq, sIf, eP, ePk, ePkT, eFr, frzS, frz1, shE, VH.shS_sh, VH.shS_lst, VH.shS_dic, VH.shS_scr, VH.shS_none, pVar, pC, pBin, pChain, pUn, pMap, pB, pTru, pNN, pNNo, pAnd, pOr, pNot, pAndV, pOrV, pNotV, pIf, pNil, pCons, pAll, pPart, pPart0, pSl, pM1, pSeq, pSeq2, pCall_pr, pGet2, pGet3, isDic, Pr.bind, Pr.lift, eAnd, eOr, eNot, eB, bnd, eBin, eUn, eSub, eC, VH.ret, lift, eVar, eSh, eFz, sSet, sRet, sPut, sAsg, sPar, sPar3, sFz, tgN, tgT, tgSeq, eAll, eCons, eNil, eIf, sDo, sApp, sExt, sNext, oLst, oAdd, oIf, oList, oDic0, eMov, eSl, ePart, eCallU, aNil, aVal, aBor, takeA, putA, sRaise, List.getElem?_cons_zero, List.getElem?_cons_succ, List.set_cons_zero, List.set_cons_succ, Nat.reduceSub, Nat.reduceAdd, Nat.reduceLT, Nat.reduceLeDiff, Option.bind, Option.map, O.fzb, O.fzbK, fz, blD, VH.isN_none, VH.isN_int, VH.isN_str, VH.isN_bool, VH.isN_tup, VH.isN_lst, VH.isN_dic, vi_int, vi_bool, vi_str, vi_tuple, vi_list, vi_dict, truD, flR, flRA, List.map_cons, List.map_nil, List.replicate, List.cons_append, List.nil_append, List.length_cons, List.length_nil, if_true, if_false, ite_true, ite_false, Bool.false_eq_true, decide_true, decide_false, beq_self_eq_true, Bool.not_true, Bool.not_false, and_self, and_true, true_and, and_false, false_and, Bool.or_true, Bool.true_or, Bool.or_false, Bool.false_or, Bool.and_true, Bool.and_false, Bool.true_and, Bool.false_and, ne_eq, not_false_eq_true, not_true_eq_false, reduceCtorEq, VH.eq_str, VH.ne_str, VH.eq_int, VH.ne_int, VH.add_int, VH.le_int, VH.lt_int, VH.gt_int, VH.ge_int, VH.ixt0, VH.ixt1, VH.ixt2, VH.ixl0, VH.ixl1, VH.tup0, VH.tup1, VH.tup2, VH.tup3, VH.lst0, VH.lst1, VH.lst2, VH.lst3, VH.len_list, VH.len_tuple, VH.items_list, VH.items_tuple, colD, h1.1, h1.2]
  · rw [seq_ok (e := [some (tapeO T1), some (.sh (colD c)), some (.sh (.int r)), none])]
    rotate_left
    · cases hn : c.null with
      | false => simp only [pr_run, out, oR, sSeq, sIf, eP, ePk, ePkT, eFr, frzS, frz1, shE, VH.shS_sh, VH.shS_lst, VH.shS_dic, VH.shS_scr, VH.shS_none, pVar, pC, pBin, pChain, pUn, pMap, pB, pTru, pNN, pNNo, pAnd, pOr, pNot, pAndV, pOrV, pNotV, pIf, pNil, pCons, pAll, pPart, pPart0, pSl, pM1, pSeq, pSeq2, pCall_pr, pGet2, pGet3, isDic, Pr.bind, Pr.lift, eAnd, eOr, eNot, eB, bnd, eBin, eUn, eSub, eC, VH.ret, lift, eVar, eSh, eFz, sSet, sRet, sPut, sAsg, sPar, sPar3, sFz, tgN, tgT, tgSeq, eAll, eCons, eNil, eIf, sDo, sApp, sExt, sNext, oLst, oAdd, oIf, oList, oDic0, eMov, eSl, ePart, eCallU, aNil, aVal, aBor, takeA, putA, sRaise, List.getElem?_cons_zero, List.getElem?_cons_succ, List.set_cons_zero, List.set_cons_succ, Nat.reduceSub, Nat.reduceAdd, Nat.reduceLT, Nat.reduceLeDiff, Option.bind, Option.map, O.fzb, O.fzbK, fz, blD, VH.isN_none, VH.isN_int, VH.isN_str, VH.isN_bool, VH.isN_tup, VH.isN_lst, VH.isN_dic, vi_int, vi_bool, vi_str, vi_tuple, vi_list, vi_dict, truD, flR, flRA, List.map_cons, List.map_nil, List.replicate, List.cons_append, List.nil_append, List.length_cons, List.length_nil, if_true, if_false, ite_true, ite_false, Bool.false_eq_true, decide_true, decide_false, beq_self_eq_true, Bool.not_true, Bool.not_false, and_self, and_true, true_and, and_false, false_and, Bool.or_true, Bool.true_or, Bool.or_false, Bool.false_or, Bool.and_true, Bool.and_false, Bool.true_and, Bool.false_and, ne_eq, not_false_eq_true, not_true_eq_false, reduceCtorEq, VH.eq_str, VH.ne_str, VH.eq_int, VH.ne_int, VH.add_int, VH.le_int, VH.lt_int, VH.gt_int, VH.ge_int, VH.ixt0, VH.ixt1, VH.ixt2, VH.ixl0, VH.ixl1, VH.tup0, VH.tup1, VH.tup2, VH.tup3, VH.lst0, VH.lst1, VH.lst2, VH.lst3, VH.len_list, VH.len_tuple, VH.items_list, VH.items_tuple, colD, hn]
      | true =>
        have h2 : decide ((r : Int) < 2) = false := decide_eq_false fun q => h1 ⟨hn, q⟩
        simp only [pr_run, out, oR, sSeq, sIf, eP, ePk, ePkT, eFr, frzS, frz1, shE, VH.shS_sh, VH.shS_lst, VH.shS_dic, VH.shS_scr, VH.shS_none, pVar, pC, pBin, pChain, pUn, pMap, pB, pTru, pNN, pNNo, pAnd, pOr, pNot, pAndV, pOrV, pNotV, pIf, pNil, pCons, pAll, pPart, pPart0, pSl, pM1, pSeq, pSeq2, pCall_pr, pGet2, pGet3, isDic, Pr.bind, Pr.lift, eAnd, eOr, eNot, eB, bnd, eBin, eUn, eSub, eC, VH.ret, lift, eVar, eSh, eFz, sSet, sRet, sPut, sAsg, sPar, sPar3, sFz, tgN, tgT, tgSeq, eAll, eCons, eNil, eIf, sDo, sApp, sExt, sNext, oLst, oAdd, oIf, oList, oDic0, eMov, eSl, ePart, eCallU, aNil, aVal, aBor, takeA, putA, sRaise, List.getElem?_cons_zero, List.getElem?_cons_succ, List.set_cons_zero, List.set_cons_succ, Nat.reduceSub, Nat.reduceAdd, Nat.reduceLT, Nat.reduceLeDiff, Option.bind, Option.map, O.fzb, O.fzbK, fz, blD, VH.isN_none, VH.isN_int, VH.isN_str, VH.isN_bool, VH.isN_tup, VH.isN_lst, VH.isN_dic, vi_int, vi_bool, vi_str, vi_tuple, vi_list, vi_dict, truD, flR, flRA, List.map_cons, List.map_nil, List.replicate, List.cons_append, List.nil_append, List.length_cons, List.length_nil, if_true, if_false, ite_true, ite_false, Bool.false_eq_true, decide_true, decide_false, beq_self_eq_true, Bool.not_true, Bool.not_false, and_self, and_true, true_and, and_false, false_and, Bool.or_true, Bool.true_or, Bool.or_false, Bool.false_or, Bool.and_true, Bool.and_false, Bool.true_and, Bool.false_and, ne_eq, not_false_eq_true, not_true_eq_false, reduceCtorEq, VH.eq_str, VH.ne_str, VH.eq_int, VH.ne_int, VH.add_int, VH.le_int, VH.lt_int, VH.gt_int, VH.ge_int, VH.ixt0, VH.ixt1, VH.ixt2, VH.ixl0, VH.ixl1, VH.tup0, VH.tup1, VH.tup2, VH.tup3, VH.lst0, VH.lst1, VH.lst2, VH.lst3, VH.len_list, VH.len_tuple, VH.items_list, VH.items_tuple, colD, hn, h2]
    by_cases h2 : r = 2
    · obtain ⟨v, T2, e2, hv⟩ := small_ex T1 c.int false
      refine ⟨.is v, T2, ?_, hv⟩
      have h3 : ((r : Int) == 2) = true := by simp; omega
      rw [seq_ret (o := .sh (tmD (.is v))) (e := [some (tapeO T2), some (.sh (colD c)), some (.sh (.int r)), none])]
      · rfl
      · unfold colD tmD
        simp only [pr_run, out, oR, sSeq, sIf, eP, ePk, ePkT, eFr, frzS, frz1, shE, VH.shS_sh, VH.shS_lst, VH.shS_dic, VH.shS_scr, VH.shS_none, pVar, pC, pBin, pChain, pUn, pMap, pB, pTru, pNN, pNNo, pAnd, pOr, pNot, pAndV, pOrV, pNotV, pIf, pNil, pCons, pAll, pPart, pPart0, pSl, pM1, pSeq, pSeq2, pCall_pr, pGet2, pGet3, isDic, Pr.bind, Pr.lift, eAnd, eOr, eNot, eB, bnd, eBin, eUn, eSub, eC, VH.ret, lift, eVar, eSh, eFz, sSet, sRet, sPut, sAsg, sPar, sPar3, sFz, tgN, tgT, tgSeq, eAll, eCons, eNil, eIf, sDo, sApp, sExt, sNext, oLst, oAdd, oIf, oList, oDic0, eMov, eSl, ePart, eCallU, aNil, aVal, aBor, takeA, putA, sRaise, List.getElem?_cons_zero, List.getElem?_cons_succ, List.set_cons_zero, List.set_cons_succ, Nat.reduceSub, Nat.reduceAdd, Nat.reduceLT, Nat.reduceLeDiff, Option.bind, Option.map, O.fzb, O.fzbK, fz, blD, VH.isN_none, VH.isN_int, VH.isN_str, VH.isN_bool, VH.isN_tup, VH.isN_lst, VH.isN_dic, vi_int, vi_bool, vi_str, vi_tuple, vi_list, vi_dict, truD, flR, flRA, List.map_cons, List.map_nil, List.replicate, List.cons_append, List.nil_append, List.length_cons, List.length_nil, if_true, if_false, ite_true, ite_false, Bool.false_eq_true, decide_true, decide_false, beq_self_eq_true, Bool.not_true, Bool.not_false, and_self, and_true, true_and, and_false, false_and, Bool.or_true, Bool.true_or, Bool.or_false, Bool.false_or, Bool.and_true, Bool.and_false, Bool.true_and, Bool.false_and, ne_eq, not_false_eq_true, not_true_eq_false, reduceCtorEq, VH.eq_str, VH.ne_str, VH.eq_int, VH.ne_int, VH.add_int, VH.le_int, VH.lt_int, VH.gt_int, VH.ge_int, VH.ixt0, VH.ixt1, VH.ixt2, VH.ixl0, VH.ixl1, VH.tup0, VH.tup1, VH.tup2, VH.tup3, VH.lst0, VH.lst1, VH.lst2, VH.lst3, VH.len_list, VH.len_tuple, VH.items_list, VH.items_tuple, h3, e2]
    · have h3 : ((r : Int) == 2) = false := by simp; omega
      rw [seq_ok (e := [some (tapeO T1), some (.sh (colD c)), some (.sh (.int r)), none])]
      rotate_left
      · simp only [pr_run, out, oR, sSeq, sIf, eP, ePk, ePkT, eFr, frzS, frz1, shE, VH.shS_sh, VH.shS_lst, VH.shS_dic, VH.shS_scr, VH.shS_none, pVar, pC, pBin, pChain, pUn, pMap, pB, pTru, pNN, pNNo, pAnd, pOr, pNot, pAndV, pOrV, pNotV, pIf, pNil, pCons, pAll, pPart, pPart0, pSl, pM1, pSeq, pSeq2, pCall_pr, pGet2, pGet3, isDic, Pr.bind, Pr.lift, eAnd, eOr, eNot, eB, bnd, eBin, eUn, eSub, eC, VH.ret, lift, eVar, eSh, eFz, sSet, sRet, sPut, sAsg, sPar, sPar3, sFz, tgN, tgT, tgSeq, eAll, eCons, eNil, eIf, sDo, sApp, sExt, sNext, oLst, oAdd, oIf, oList, oDic0, eMov, eSl, ePart, eCallU, aNil, aVal, aBor, takeA, putA, sRaise, List.getElem?_cons_zero, List.getElem?_cons_succ, List.set_cons_zero, List.set_cons_succ, Nat.reduceSub, Nat.reduceAdd, Nat.reduceLT, Nat.reduceLeDiff, Option.bind, Option.map, O.fzb, O.fzbK, fz, blD, VH.isN_none, VH.isN_int, VH.isN_str, VH.isN_bool, VH.isN_tup, VH.isN_lst, VH.isN_dic, vi_int, vi_bool, vi_str, vi_tuple, vi_list, vi_dict, truD, flR, flRA, List.map_cons, List.map_nil, List.replicate, List.cons_append, List.nil_append, List.length_cons, List.length_nil, if_true, if_false, ite_true, ite_false, Bool.false_eq_true, decide_true, decide_false, beq_self_eq_true, Bool.not_true, Bool.not_false, and_self, and_true, true_and, and_false, false_and, Bool.or_true, Bool.true_or, Bool.or_false, Bool.false_or, Bool.and_true, Bool.and_false, Bool.true_and, Bool.false_and, ne_eq, not_false_eq_true, not_true_eq_false, reduceCtorEq, VH.eq_str, VH.ne_str, VH.eq_int, VH.ne_int, VH.add_int, VH.le_int, VH.lt_int, VH.gt_int, VH.ge_int, VH.ixt0, VH.ixt1, VH.ixt2, VH.ixl0, VH.ixl1, VH.tup0, VH.tup1, VH.tup2, VH.tup3, VH.lst0, VH.lst1, VH.lst2, VH.lst3, VH.len_list, VH.len_tuple, VH.items_list, VH.items_tuple, h3]
      have hk := kindS_int c.int
      rw [seq_ok (e := [some (tapeO T1), some (.sh (colD c)), some (.sh (.int r)), some (.sh (.list ((varsOf c.int).map .str)))])]
      rotate_left
      · cases hc : c.int with
        | true =>
          rw [hc] at hk
          simp only [pr_run, out, oR, sSeq, sIf, eP, ePk, ePkT, eFr, frzS, frz1, shE, VH.shS_sh, VH.shS_lst, VH.shS_dic, VH.shS_scr, VH.shS_none, pVar, pC, pBin, pChain, pUn, pMap, pB, pTru, pNN, pNNo, pAnd, pOr, pNot, pAndV, pOrV, pNotV, pIf, pNil, pCons, pAll, pPart, pPart0, pSl, pM1, pSeq, pSeq2, pCall_pr, pGet2, pGet3, isDic, Pr.bind, Pr.lift, eAnd, eOr, eNot, eB, bnd, eBin, eUn, eSub, eC, VH.ret, lift, eVar, eSh, eFz, sSet, sRet, sPut, sAsg, sPar, sPar3, sFz, tgN, tgT, tgSeq, eAll, eCons, eNil, eIf, sDo, sApp, sExt, sNext, oLst, oAdd, oIf, oList, oDic0, eMov, eSl, ePart, eCallU, aNil, aVal, aBor, takeA, putA, sRaise, List.getElem?_cons_zero, List.getElem?_cons_succ, List.set_cons_zero, List.set_cons_succ, Nat.reduceSub, Nat.reduceAdd, Nat.reduceLT, Nat.reduceLeDiff, Option.bind, Option.map, O.fzb, O.fzbK, fz, blD, VH.isN_none, VH.isN_int, VH.isN_str, VH.isN_bool, VH.isN_tup, VH.isN_lst, VH.isN_dic, vi_int, vi_bool, vi_str, vi_tuple, vi_list, vi_dict, truD, flR, flRA, List.map_cons, List.map_nil, List.replicate, List.cons_append, List.nil_append, List.length_cons, List.length_nil, if_true, if_false, ite_true, ite_false, Bool.false_eq_true, decide_true, decide_false, beq_self_eq_true, Bool.not_true, Bool.not_false, and_self, and_true, true_and, and_false, false_and, Bool.or_true, Bool.true_or, Bool.or_false, Bool.false_or, Bool.and_true, Bool.and_false, Bool.true_and, Bool.false_and, ne_eq, not_false_eq_true, not_true_eq_false, reduceCtorEq, VH.eq_str, VH.ne_str, VH.eq_int, VH.ne_int, VH.add_int, VH.le_int, VH.lt_int, VH.gt_int, VH.ge_int, VH.ixt0, VH.ixt1, VH.ixt2, VH.ixl0, VH.ixl1, VH.tup0, VH.tup1, VH.tup2, VH.tup3, VH.lst0, VH.lst1, VH.lst2, VH.lst3, VH.len_list, VH.len_tuple, VH.items_list, VH.items_tuple, colD, hc, hk, varsOf, ivars]
        | false =>
          rw [hc] at hk
          simp only [pr_run, out, oR, sSeq, sIf, eP, ePk, ePkT, eFr, frzS, frz1, shE, VH.shS_sh, VH.shS_lst, VH.shS_dic, VH.shS_scr, VH.shS_none, pVar, pC, pBin, pChain, pUn, pMap, pB, pTru, pNN, pNNo, pAnd, pOr, pNot, pAndV, pOrV, pNotV, pIf, pNil, pCons, pAll, pPart, pPart0, pSl, pM1, pSeq, pSeq2, pCall_pr, pGet2, pGet3, isDic, Pr.bind, Pr.lift, eAnd, eOr, eNot, eB, bnd, eBin, eUn, eSub, eC, VH.ret, lift, eVar, eSh, eFz, sSet, sRet, sPut, sAsg, sPar, sPar3, sFz, tgN, tgT, tgSeq, eAll, eCons, eNil, eIf, sDo, sApp, sExt, sNext, oLst, oAdd, oIf, oList, oDic0, eMov, eSl, ePart, eCallU, aNil, aVal, aBor, takeA, putA, sRaise, List.getElem?_cons_zero, List.getElem?_cons_succ, List.set_cons_zero, List.set_cons_succ, Nat.reduceSub, Nat.reduceAdd, Nat.reduceLT, Nat.reduceLeDiff, Option.bind, Option.map, O.fzb, O.fzbK, fz, blD, VH.isN_none, VH.isN_int, VH.isN_str, VH.isN_bool, VH.isN_tup, VH.isN_lst, VH.isN_dic, vi_int, vi_bool, vi_str, vi_tuple, vi_list, vi_dict, truD, flR, flRA, List.map_cons, List.map_nil, List.replicate, List.cons_append, List.nil_append, List.length_cons, List.length_nil, if_true, if_false, ite_true, ite_false, Bool.false_eq_true, decide_true, decide_false, beq_self_eq_true, Bool.not_true, Bool.not_false, and_self, and_true, true_and, and_false, false_and, Bool.or_true, Bool.true_or, Bool.or_false, Bool.false_or, Bool.and_true, Bool.and_false, Bool.true_and, Bool.false_and, ne_eq, not_false_eq_true, not_true_eq_false, reduceCtorEq, VH.eq_str, VH.ne_str, VH.eq_int, VH.ne_int, VH.add_int, VH.le_int, VH.lt_int, VH.gt_int, VH.ge_int, VH.ixt0, VH.ixt1, VH.ixt2, VH.ixl0, VH.ixl1, VH.tup0, VH.tup1, VH.tup2, VH.tup3, VH.lst0, VH.lst1, VH.lst2, VH.lst3, VH.len_list, VH.len_tuple, VH.items_list, VH.items_tuple, colD, hc, hk, varsOf, tvars]
      obtain ⟨r2, T2, e2, hr2⟩ := take_ex T1 (m := 3) (by decide) (by decide)
      obtain ⟨x, ex, hx⟩ := names_ex c.int (r := r2) (by omega)
      refine ⟨.var x, T2, ?_, hx⟩
      generalize (.list ((varsOf c.int).map .str) : D) = N at ex
      simp only [pr_run, out, oR, sSeq, sIf, eP, ePk, ePkT, eFr, frzS, frz1, shE, VH.shS_sh, VH.shS_lst, VH.shS_dic, VH.shS_scr, VH.shS_none, pVar, pC, pBin, pChain, pUn, pMap, pB, pTru, pNN, pNNo, pAnd, pOr, pNot, pAndV, pOrV, pNotV, pIf, pNil, pCons, pAll, pPart, pPart0, pSl, pM1, pSeq, pSeq2, pCall_pr, pGet2, pGet3, isDic, Pr.bind, Pr.lift, eAnd, eOr, eNot, eB, bnd, eBin, eUn, eSub, eC, VH.ret, lift, eVar, eSh, eFz, sSet, sRet, sPut, sAsg, sPar, sPar3, sFz, tgN, tgT, tgSeq, eAll, eCons, eNil, eIf, sDo, sApp, sExt, sNext, oLst, oAdd, oIf, oList, oDic0, eMov, eSl, ePart, eCallU, aNil, aVal, aBor, takeA, putA, sRaise, List.getElem?_cons_zero, List.getElem?_cons_succ, List.set_cons_zero, List.set_cons_succ, Nat.reduceSub, Nat.reduceAdd, Nat.reduceLT, Nat.reduceLeDiff, Option.bind, Option.map, O.fzb, O.fzbK, fz, blD, VH.isN_none, VH.isN_int, VH.isN_str, VH.isN_bool, VH.isN_tup, VH.isN_lst, VH.isN_dic, vi_int, vi_bool, vi_str, vi_tuple, vi_list, vi_dict, truD, flR, flRA, List.map_cons, List.map_nil, List.replicate, List.cons_append, List.nil_append, List.length_cons, List.length_nil, if_true, if_false, ite_true, ite_false, Bool.false_eq_true, decide_true, decide_false, beq_self_eq_true, Bool.not_true, Bool.not_false, and_self, and_true, true_and, and_false, false_and, Bool.or_true, Bool.true_or, Bool.or_false, Bool.false_or, Bool.and_true, Bool.and_false, Bool.true_and, Bool.false_and, ne_eq, not_false_eq_true, not_true_eq_false, reduceCtorEq, VH.eq_str, VH.ne_str, VH.eq_int, VH.ne_int, VH.add_int, VH.le_int, VH.lt_int, VH.gt_int, VH.ge_int, VH.ixt0, VH.ixt1, VH.ixt2, VH.ixl0, VH.ixl1, VH.tup0, VH.tup1, VH.tup2, VH.tup3, VH.lst0, VH.lst1, VH.lst2, VH.lst3, VH.len_list, VH.len_tuple, VH.items_list, VH.items_tuple, e2, ex, tmD, mask]
end VC
set_option Elab.async false
set_option linter.all false
set_option maxRecDepth 100000
set_option maxHeartbeats 4000000
namespace VC
open PySem PySem.Spec PyProof.Rows L2 VH
/-! ### equality of lists of texts -/
theorem lay_strs : ∀ xs : List Str, (∀ x ∈ xs, PyData.strOk x = true) → PyData.canLayAll0 (xs.map .str) = true
  | [], _ => rfl
  | x :: xs, h => by
    show (PyData.strOk x && PyData.canLayAll0 (xs.map .str)) = true
    rw [h x List.mem_cons_self, lay_strs xs fun y hy => h y (List.mem_cons_of_mem _ hy)]; rfl
theorem dep_strs : ∀ xs : List Str, PyData.depthAll (xs.map .str) = 0
  | [] => rfl
  | x :: xs => by
    show max 0 (PyData.depthAll (xs.map .str)) = 0
    rw [dep_strs xs]; rfl
theorem shp_strs {xs : List Str} (h : ∀ x ∈ xs, PyData.strOk x = true) : SeqAt.shaped (.list (xs.map .str)) = true := by
  show (PyData.canLayAll0 (xs.map .str) && decide (PyData.depthAll (xs.map .str) + 1 ≤ 64)) = true
  rw [lay_strs xs h, dep_strs]; rfl
theorem ne_nil {xs : List Str} (h : ∀ x ∈ xs, PyData.strOk x = true) : neD (.list (xs.map .str)) (.list []) = some (.bool (!xs.isEmpty)) := by
  unfold neD eqS
  simp only
  rw [if_pos ⟨shp_strs h, by rfl⟩]
  cases xs <;> rfl
theorem vars_ok (b : Bool) : ∀ x ∈ varsOf b, PyData.strOk x = true := by cases b <;> decide +kernel
/-! ### the tables in order -/
theorem keysS_sc : ∀ s : Sch, keysS (s.map fun p => (PyData.str p.1, tbD p.2)) = some (s.map (·.1))
  | [] => rfl
  | p :: s => by
    show (keysS (s.map fun p => (PyData.str p.1, tbD p.2))).map (p.1 :: ·) = _
    rw [keysS_sc s]; rfl
theorem sort_tabs {k : Nat} : sortS (tabs.take k) = tabs.take k := by
  refine sortS_id ?_
  rcases (show k = 0 ∨ k = 1 ∨ k = 2 ∨ 3 ≤ k by omega) with rfl | rfl | rfl | h
  · rfl
  · decide +kernel
  · decide +kernel
  · rw [List.take_of_length_le (show tabs.length ≤ k from h)]
    decide +kernel
theorem WSch.len {s : Sch} (w : WSch s) : s.length ≤ 3 := by
  obtain ⟨k, hk, e⟩ := w.nm
  have := congrArg List.length e
  rw [List.length_map, List.length_take] at this
  omega
theorem sort_sc {s : Sch} (w : WSch s) : sortDD [scD s] = some (.list ((s.map (·.1)).map .str)) := by
  obtain ⟨k, hk, e⟩ := w.nm
  show (if (s.map fun p => (PyData.str p.1, tbD p.2)).length < 64 then _ else none) = _
  have hl := w.len
  rw [if_pos (by rw [List.length_map]; omega), keysS_sc, Option.map_some, e, sort_tabs]
/-- a drawn question -/
structure GAtom (s : Sch) (a : Atom) : Prop where
  ex : ∃ cs, s.lookup a.1 = some cs ∧ a.2.length = cs.length ∧ ∀ p ∈ a.2.zip cs, GTerm p.2 p.1
structure GQ (s : Sch) (m : Nat) (q : Qn) : Prop where
  l1 : 1 ≤ q.atoms.length
  l2 : q.atoms.length ≤ m
  ga : ∀ a ∈ q.atoms, GAtom s a
  hl : q.head.length ≤ 2
  hv : ∀ x ∈ q.head, ∃ a ∈ q.atoms, Term.var x ∈ a.2
theorem terms_comp (u1 u2 u3 u4 u5 u6 u8 u9 u10 u11 : Option O) : ∀ (cs : List Col) (T : Tape), ∃ (ts : List Term) (T' : Tape), compM (tgN 7) [7] (VH.ret true) (eFz (eCallU r__law_term (aBor 0 (aVal (eP (pVar 7)) (aNil))))) (cs.map colD) [some (tapeO T), u1, u2, u3, u4, u5, u6, none, u8, u9, u10, u11] =
    .ok (ts.map tmD) [some (tapeO T'), u1, u2, u3, u4, u5, u6, none, u8, u9, u10, u11] ∧ ts.length = cs.length ∧ ∀ p ∈ ts.zip cs, GTerm p.2 p.1
  | [], T => ⟨[], T, rfl, rfl, fun _ h => nomatch h⟩
  | c :: cs, T => by
    obtain ⟨t, T1, e1, h1⟩ := term_ex T c
    obtain ⟨ts, T2, e2, hl, h2⟩ := terms_comp u1 u2 u3 u4 u5 u6 u8 u9 u10 u11 cs T1
    refine ⟨t :: ts, T2, ?_, by simp [hl], fun p hp => ?_⟩
    · rw [List.map_cons]
      unfold compM
      simp only [pr_run, out, oR, sSeq, sIf, eP, ePk, ePkT, eFr, frzS, frz1, shE, VH.shS_sh, VH.shS_lst, VH.shS_dic, VH.shS_scr, VH.shS_none, pVar, pC, pBin, pChain, pUn, pMap, pB, pTru, pNN, pNNo, pAnd, pOr, pNot, pAndV, pOrV, pNotV, pIf, pNil, pCons, pAll, pPart, pPart0, pSl, pM1, pSeq, pSeq2, pCall_pr, pGet2, pGet3, isDic, Pr.bind, Pr.lift, eAnd, eOr, eNot, eB, bnd, eBin, eUn, eSub, eC, VH.ret, lift, eVar, eSh, eFz, sSet, sRet, sPut, sAsg, sPar, sPar3, sFz, tgN, tgT, tgSeq, eAll, eCons, eNil, eIf, sDo, sApp, sExt, sNext, oLst, oAdd, oIf, oList, oDic0, eMov, eSl, ePart, eCallU, aNil, aVal, aBor, takeA, putA, sRaise, List.getElem?_cons_zero, List.getElem?_cons_succ, List.set_cons_zero, List.set_cons_succ, Nat.reduceSub, Nat.reduceAdd, Nat.reduceLT, Nat.reduceLeDiff, Option.bind, Option.map, O.fzb, O.fzbK, fz, blD, VH.isN_none, VH.isN_int, VH.isN_str, VH.isN_bool, VH.isN_tup, VH.isN_lst, VH.isN_dic, vi_int, vi_bool, vi_str, vi_tuple, vi_list, vi_dict, truD, flR, flRA, List.map_cons, List.map_nil, List.replicate, List.cons_append, List.nil_append, List.length_cons, List.length_nil, if_true, if_false, ite_true, ite_false, Bool.false_eq_true, decide_true, decide_false, beq_self_eq_true, Bool.not_true, Bool.not_false, and_self, and_true, true_and, and_false, false_and, Bool.or_true, Bool.true_or, Bool.or_false, Bool.false_or, Bool.and_true, Bool.and_false, Bool.true_and, Bool.false_and, ne_eq, not_false_eq_true, not_true_eq_false, reduceCtorEq, VH.eq_str, VH.ne_str, VH.eq_int, VH.ne_int, VH.add_int, VH.le_int, VH.lt_int, VH.gt_int, VH.ge_int, VH.ixt0, VH.ixt1, VH.ixt2, VH.ixl0, VH.ixl1, VH.tup0, VH.tup1, VH.tup2, VH.tup3, VH.lst0, VH.lst1, VH.lst2, VH.lst3, VH.len_list, VH.len_tuple, VH.items_list, VH.items_tuple, e1, dropE, e2]
    · rw [List.zip_cons_cons] at hp
      rcases List.mem_cons.mp hp with rfl | hp
      · exact h1
      · exact h2 p hp
theorem tupOf_list (xs : List D) : tupOfD [.list xs] = some (.tuple xs) := rfl
theorem lookup_mem {s : Sch} {t : Str} (hn : (s.map (·.1)).Nodup) {cs : List Col} (h : (t, cs) ∈ s) : s.lookup t = some cs := by
  induction s with
  | nil => cases h
  | cons p s ih =>
    rw [List.lookup_cons]
    have hn' := List.nodup_cons.mp (show (p.1 :: s.map (·.1)).Nodup from hn)
    rcases List.mem_cons.mp h with rfl | h
    · simp
    · have : (t == p.1) = false := by
        have : t ≠ p.1 := fun q => hn'.1 (q ▸ List.mem_map.mpr ⟨_, h, rfl⟩)
        simpa using this
      rw [this]
      exact ih hn'.2 h
theorem WSch.nd {s : Sch} (w : WSch s) : (s.map (·.1)).Nodup := by
  obtain ⟨k, hk, e⟩ := w.nm
  rw [e]
  exact tabs_nd.sublist (List.take_sublist _ _)
/-- one atom is drawn -/
theorem atom_turn {s : Sch} (w : WSch s) (T : Tape) (u2 u5 u6 u8 u9 u10 u11 : Option O) (as : List Atom) (hl : as.length ≤ 1000) (u7 : Option O) : ∃ (a : Atom) (T' : Tape) (v6 : Option O), GAtom s a ∧
    L1__law_question r__law_take r__law_term [some (tapeO T), some (.sh (scD s)), u2, some (.sh (.list ((s.map (·.1)).map .str))), some (.lst (as.map atD)), u5, u6, u7, u8, u9, u10, u11] =
      .ok .nx [some (tapeO T'), some (.sh (scD s)), u2, some (.sh (.list ((s.map (·.1)).map .str))), some (.lst ((as ++ [a]).map atD)), u5, v6, none, u8, u9, u10, u11] := by
  have h0 := w.ne
  have h3 := w.len
  obtain ⟨r, T1, e1, hr⟩ := take_ex T (m := s.length) (by omega) (by omega)
  have hr' : r < s.length := by omega
  have ei : idxD (.list ((s.map (·.1)).map .str)) (.int r) = some (.str (s[r]).1) := atI_nat (by simp [hr'])
  have el : s.lookup (s[r]).1 = some (s[r]).2 := lookup_mem w.nd (by exact List.getElem_mem hr')
  have e2 := idx_sc el
  have e3 := idx_tb (s[r]).2
  obtain ⟨ts, T2, e4, hts, hg⟩ := terms_comp (some (.sh (scD s))) u2 (some (.sh (.list ((s.map (·.1)).map .str)))) (some (.lst (as.map atD))) u5 (some (.sh (.str (s[r]).1))) u8 u9 u10 u11 (s[r]).2 T1
  refine ⟨((s[r]).1, ts), T2, some (.sh (.str (s[r]).1)), ⟨(s[r]).2, el, hts, hg⟩, ?_⟩
  have hl2 : (as.map atD).length < sizeLine := line_1000 (by rw [List.length_map]; exact hl)
  have hap : (as ++ [((s[r]).1, ts)]).map atD = as.map atD ++ [atD ((s[r]).1, ts)] := by rw [List.map_append]; rfl
  rw [hap]
  unfold L1__law_question
  rw [seq_ok (e := [some (tapeO T1), some (.sh (scD s)), u2, some (.sh (.list ((s.map (·.1)).map .str))), some (.lst (as.map atD)), u5, some (.sh (.str (s[r]).1)), u7, u8, u9, u10, u11])]
  rotate_left
  · have e1' : r__law_take [tapeO T, .sh (.int (((s.map (·.1)).map PyData.str).length : Nat))] = .ok (.sh (.int r)) [some (tapeO T1), none] := by rw [List.length_map, List.length_map]; exact e1
    generalize ((s.map (·.1)).map PyData.str) = X at e1' ei
    simp only [pr_run, out, oR, sSeq, sIf, eP, ePk, ePkT, eFr, frzS, frz1, shE, VH.shS_sh, VH.shS_lst, VH.shS_dic, VH.shS_scr, VH.shS_none, pVar, pC, pBin, pChain, pUn, pMap, pB, pTru, pNN, pNNo, pAnd, pOr, pNot, pAndV, pOrV, pNotV, pIf, pNil, pCons, pAll, pPart, pPart0, pSl, pM1, pSeq, pSeq2, pCall_pr, pGet2, pGet3, isDic, Pr.bind, Pr.lift, eAnd, eOr, eNot, eB, bnd, eBin, eUn, eSub, eC, VH.ret, lift, eVar, eSh, eFz, sSet, sRet, sPut, sAsg, sPar, sPar3, sFz, tgN, tgT, tgSeq, eAll, eCons, eNil, eIf, sDo, sApp, sExt, sNext, oLst, oAdd, oIf, oList, oDic0, eMov, eSl, ePart, eCallU, aNil, aVal, aBor, takeA, putA, sRaise, List.getElem?_cons_zero, List.getElem?_cons_succ, List.set_cons_zero, List.set_cons_succ, Nat.reduceSub, Nat.reduceAdd, Nat.reduceLT, Nat.reduceLeDiff, Option.bind, Option.map, O.fzb, O.fzbK, fz, blD, VH.isN_none, VH.isN_int, VH.isN_str, VH.isN_bool, VH.isN_tup, VH.isN_lst, VH.isN_dic, vi_int, vi_bool, vi_str, vi_tuple, vi_list, vi_dict, truD, flR, flRA, List.map_cons, List.map_nil, List.replicate, List.cons_append, List.nil_append, List.length_cons, List.length_nil, if_true, if_false, ite_true, ite_false, Bool.false_eq_true, decide_true, decide_false, beq_self_eq_true, Bool.not_true, Bool.not_false, and_self, and_true, true_and, and_false, false_and, Bool.or_true, Bool.true_or, Bool.or_false, Bool.false_or, Bool.and_true, Bool.and_false, Bool.true_and, Bool.false_and, ne_eq, not_false_eq_true, not_true_eq_false, reduceCtorEq, VH.eq_str, VH.ne_str, VH.eq_int, VH.ne_int, VH.add_int, VH.le_int, VH.lt_int, VH.gt_int, VH.ge_int, VH.ixt0, VH.ixt1, VH.ixt2, VH.ixl0, VH.ixl1, VH.tup0, VH.tup1, VH.tup2, VH.tup3, VH.lst0, VH.lst1, VH.lst2, VH.lst3, VH.len_list, VH.len_tuple, VH.items_list, VH.items_tuple, e1', ei]
  generalize (as.map atD) = Y at *
  generalize ((s.map (·.1)).map PyData.str) = X at *
  simp only [pr_run, out, oR, sSeq, sIf, eP, ePk, ePkT, eFr, frzS, frz1, shE, VH.shS_sh, VH.shS_lst, VH.shS_dic, VH.shS_scr, VH.shS_none, pVar, pC, pBin, pChain, pUn, pMap, pB, pTru, pNN, pNNo, pAnd, pOr, pNot, pAndV, pOrV, pNotV, pIf, pNil, pCons, pAll, pPart, pPart0, pSl, pM1, pSeq, pSeq2, pCall_pr, pGet2, pGet3, isDic, Pr.bind, Pr.lift, eAnd, eOr, eNot, eB, bnd, eBin, eUn, eSub, eC, VH.ret, lift, eVar, eSh, eFz, sSet, sRet, sPut, sAsg, sPar, sPar3, sFz, tgN, tgT, tgSeq, eAll, eCons, eNil, eIf, sDo, sApp, sExt, sNext, oLst, oAdd, oIf, oList, oDic0, eMov, eSl, ePart, eCallU, aNil, aVal, aBor, takeA, putA, sRaise, List.getElem?_cons_zero, List.getElem?_cons_succ, List.set_cons_zero, List.set_cons_succ, Nat.reduceSub, Nat.reduceAdd, Nat.reduceLT, Nat.reduceLeDiff, Option.bind, Option.map, O.fzb, O.fzbK, fz, blD, VH.isN_none, VH.isN_int, VH.isN_str, VH.isN_bool, VH.isN_tup, VH.isN_lst, VH.isN_dic, vi_int, vi_bool, vi_str, vi_tuple, vi_list, vi_dict, truD, flR, flRA, List.map_cons, List.map_nil, List.replicate, List.cons_append, List.nil_append, List.length_cons, List.length_nil, if_true, if_false, ite_true, ite_false, Bool.false_eq_true, decide_true, decide_false, beq_self_eq_true, Bool.not_true, Bool.not_false, and_self, and_true, true_and, and_false, false_and, Bool.or_true, Bool.true_or, Bool.or_false, Bool.false_or, Bool.and_true, Bool.and_false, Bool.true_and, Bool.false_and, ne_eq, not_false_eq_true, not_true_eq_false, reduceCtorEq, VH.eq_str, VH.ne_str, VH.eq_int, VH.ne_int, VH.add_int, VH.le_int, VH.lt_int, VH.gt_int, VH.ge_int, VH.ixt0, VH.ixt1, VH.ixt2, VH.ixl0, VH.ixl1, VH.tup0, VH.tup1, VH.tup2, VH.tup3, VH.lst0, VH.lst1, VH.lst2, VH.lst3, VH.len_list, VH.len_tuple, VH.items_list, VH.items_tuple, oComp, e2, e3, dropE, e4, tupOf_list, hl2, atD]
end VC
set_option Elab.async false
set_option linter.all false
set_option maxRecDepth 100000
set_option maxHeartbeats 4000000
namespace VC
open PySem PySem.Spec PyProof.Rows L2 VH
/-! ### the variables of the atoms, in order -/
def newVar (ns : List Str) : Term → Option Str
  | .var x => if x ∈ ns then none else some x
  | _ => none
def isVarS (all : List Atom) (x : Str) : Prop := (∃ a ∈ all, Term.var x ∈ a.2) ∧ (x ∈ ivars ∨ x ∈ tvars)
theorem in_strs (x : Str) (ns : List Str) : inOp (.str x) (.list (ns.map .str)) = some (.bool (decide (x ∈ ns))) := by
  have h : ∀ ns : List Str, (ns.map PyData.str).all flatD = true := fun ns => by
    rw [List.all_map]; exact List.all_eq_true.mpr fun _ _ => rfl
  have h2 : ∀ ns : List Str, ((ns.map PyData.str).any fun y => eqF y (.str x)) = decide (x ∈ ns) := by
    intro ns
    induction ns with
    | nil => rfl
    | cons y ns ih =>
      rw [List.map_cons, List.any_cons, ih]
      by_cases e : x = y
      · subst e
        have : eqF (.str x) (.str x) = true := by show (x == x) = true; simp
        rw [this]; simp
      · have : eqF (.str y) (.str x) = false := by
          show (y == x) = false
          simpa using fun q : y = x => e q.symm
        rw [this]; simp [e]
  unfold inOp inB
  simp only
  rw [if_pos ⟨rfl, h ns⟩, Option.map_some, h2]
theorem nin_strs (x : Str) (ns : List Str) : ninOp (.str x) (.list (ns.map .str)) = some (.bool (!decide (x ∈ ns))) := by
  have h := in_strs x ns
  unfold inOp at h
  unfold ninOp
  cases hi : inB (.str x) (.list (ns.map .str)) with
  | none => rw [hi] at h; cases h
  | some b =>
    rw [hi] at h
    have e : b = decide (x ∈ ns) := by simpa using h
    rw [Option.map_some, e]
theorem names_comp (ns : List Str) (ts : List Term) (u0 u1 u2 u3 u4 u5 u6 u7 u11 : Option O) (u10 : Option O) : pComp (pSeq itemsD (pVar 9)) (tgN 10) [10] (pAnd (pNNo (pVar 10)) (pAnd (pB (pBin eqD (pBin idxD (pVar 10) (pC (.int 0))) (pC (.str (Str.ofString "var"))))) (pB (pBin ninOp (pBin idxD (pVar 10) (pC (.int 1))) (pVar 8))))) (pBin idxD (pVar 10) (pC (.int 1)))
    [u0, u1, u2, u3, u4, u5, u6, u7, some (.sh (.list (ns.map .str))), some (.sh (.tuple (ts.map tmD))), u10, u11] = .ok (.list ((ts.filterMap (newVar ns)).map .str)) := by
  refine pCompL_eq (items := ts.map tmD) (by simp only [pr_run, out, oR, sSeq, sIf, eP, ePk, ePkT, eFr, frzS, frz1, shE, VH.shS_sh, VH.shS_lst, VH.shS_dic, VH.shS_scr, VH.shS_none, pVar, pC, pBin, pChain, pUn, pMap, pB, pTru, pNN, pNNo, pAnd, pOr, pNot, pAndV, pOrV, pNotV, pIf, pNil, pCons, pAll, pPart, pPart0, pSl, pM1, pSeq, pSeq2, pCall_pr, pGet2, pGet3, isDic, Pr.bind, Pr.lift, eAnd, eOr, eNot, eB, bnd, eBin, eUn, eSub, eC, VH.ret, lift, eVar, eSh, eFz, sSet, sRet, sPut, sAsg, sPar, sPar3, sFz, tgN, tgT, tgSeq, eAll, eCons, eNil, eIf, sDo, sApp, sExt, sNext, oLst, oAdd, oIf, oList, oDic0, eMov, eSl, ePart, eCallU, aNil, aVal, aBor, takeA, putA, sRaise, List.getElem?_cons_zero, List.getElem?_cons_succ, List.set_cons_zero, List.set_cons_succ, Nat.reduceSub, Nat.reduceAdd, Nat.reduceLT, Nat.reduceLeDiff, Option.bind, Option.map, O.fzb, O.fzbK, fz, blD, VH.isN_none, VH.isN_int, VH.isN_str, VH.isN_bool, VH.isN_tup, VH.isN_lst, VH.isN_dic, vi_int, vi_bool, vi_str, vi_tuple, vi_list, vi_dict, truD, flR, flRA, List.map_cons, List.map_nil, List.replicate, List.cons_append, List.nil_append, List.length_cons, List.length_nil, if_true, if_false, ite_true, ite_false, Bool.false_eq_true, decide_true, decide_false, beq_self_eq_true, Bool.not_true, Bool.not_false, and_self, and_true, true_and, and_false, false_and, Bool.or_true, Bool.true_or, Bool.or_false, Bool.false_or, Bool.and_true, Bool.and_false, Bool.true_and, Bool.false_and, ne_eq, not_false_eq_true, not_true_eq_false, reduceCtorEq, VH.eq_str, VH.ne_str, VH.eq_int, VH.ne_int, VH.add_int, VH.le_int, VH.lt_int, VH.gt_int, VH.ge_int, VH.ixt0, VH.ixt1, VH.ixt2, VH.ixl0, VH.ixl1, VH.tup0, VH.tup1, VH.tup2, VH.tup3, VH.lst0, VH.lst1, VH.lst2, VH.lst3, VH.len_list, VH.len_tuple, VH.items_list, VH.items_tuple]) ?_
  rw [show (ts.filterMap (newVar ns)).map PyData.str = ts.filterMap (fun t => (newVar ns t).map PyData.str) by rw [List.map_filterMap]]
  refine mapP_map fun t _ => ?_
  unfold pItem
  cases t with
  | any => simp only [pr_run, out, oR, sSeq, sIf, eP, ePk, ePkT, eFr, frzS, frz1, shE, VH.shS_sh, VH.shS_lst, VH.shS_dic, VH.shS_scr, VH.shS_none, pVar, pC, pBin, pChain, pUn, pMap, pB, pTru, pNN, pNNo, pAnd, pOr, pNot, pAndV, pOrV, pNotV, pIf, pNil, pCons, pAll, pPart, pPart0, pSl, pM1, pSeq, pSeq2, pCall_pr, pGet2, pGet3, isDic, Pr.bind, Pr.lift, eAnd, eOr, eNot, eB, bnd, eBin, eUn, eSub, eC, VH.ret, lift, eVar, eSh, eFz, sSet, sRet, sPut, sAsg, sPar, sPar3, sFz, tgN, tgT, tgSeq, eAll, eCons, eNil, eIf, sDo, sApp, sExt, sNext, oLst, oAdd, oIf, oList, oDic0, eMov, eSl, ePart, eCallU, aNil, aVal, aBor, takeA, putA, sRaise, List.getElem?_cons_zero, List.getElem?_cons_succ, List.set_cons_zero, List.set_cons_succ, Nat.reduceSub, Nat.reduceAdd, Nat.reduceLT, Nat.reduceLeDiff, Option.bind, Option.map, O.fzb, O.fzbK, fz, blD, VH.isN_none, VH.isN_int, VH.isN_str, VH.isN_bool, VH.isN_tup, VH.isN_lst, VH.isN_dic, vi_int, vi_bool, vi_str, vi_tuple, vi_list, vi_dict, truD, flR, flRA, List.map_cons, List.map_nil, List.replicate, List.cons_append, List.nil_append, List.length_cons, List.length_nil, if_true, if_false, ite_true, ite_false, Bool.false_eq_true, decide_true, decide_false, beq_self_eq_true, Bool.not_true, Bool.not_false, and_self, and_true, true_and, and_false, false_and, Bool.or_true, Bool.true_or, Bool.or_false, Bool.false_or, Bool.and_true, Bool.and_false, Bool.true_and, Bool.false_and, ne_eq, not_false_eq_true, not_true_eq_false, reduceCtorEq, VH.eq_str, VH.ne_str, VH.eq_int, VH.ne_int, VH.add_int, VH.le_int, VH.lt_int, VH.gt_int, VH.ge_int, VH.ixt0, VH.ixt1, VH.ixt2, VH.ixl0, VH.ixl1, VH.tup0, VH.tup1, VH.tup2, VH.tup3, VH.lst0, VH.lst1, VH.lst2, VH.lst3, VH.len_list, VH.len_tuple, VH.items_list, VH.items_tuple, dropE, tmD, newVar]
  | is v => simp only [pr_run, out, oR, sSeq, sIf, eP, ePk, ePkT, eFr, frzS, frz1, shE, VH.shS_sh, VH.shS_lst, VH.shS_dic, VH.shS_scr, VH.shS_none, pVar, pC, pBin, pChain, pUn, pMap, pB, pTru, pNN, pNNo, pAnd, pOr, pNot, pAndV, pOrV, pNotV, pIf, pNil, pCons, pAll, pPart, pPart0, pSl, pM1, pSeq, pSeq2, pCall_pr, pGet2, pGet3, isDic, Pr.bind, Pr.lift, eAnd, eOr, eNot, eB, bnd, eBin, eUn, eSub, eC, VH.ret, lift, eVar, eSh, eFz, sSet, sRet, sPut, sAsg, sPar, sPar3, sFz, tgN, tgT, tgSeq, eAll, eCons, eNil, eIf, sDo, sApp, sExt, sNext, oLst, oAdd, oIf, oList, oDic0, eMov, eSl, ePart, eCallU, aNil, aVal, aBor, takeA, putA, sRaise, List.getElem?_cons_zero, List.getElem?_cons_succ, List.set_cons_zero, List.set_cons_succ, Nat.reduceSub, Nat.reduceAdd, Nat.reduceLT, Nat.reduceLeDiff, Option.bind, Option.map, O.fzb, O.fzbK, fz, blD, VH.isN_none, VH.isN_int, VH.isN_str, VH.isN_bool, VH.isN_tup, VH.isN_lst, VH.isN_dic, vi_int, vi_bool, vi_str, vi_tuple, vi_list, vi_dict, truD, flR, flRA, List.map_cons, List.map_nil, List.replicate, List.cons_append, List.nil_append, List.length_cons, List.length_nil, if_true, if_false, ite_true, ite_false, Bool.false_eq_true, decide_true, decide_false, beq_self_eq_true, Bool.not_true, Bool.not_false, and_self, and_true, true_and, and_false, false_and, Bool.or_true, Bool.true_or, Bool.or_false, Bool.false_or, Bool.and_true, Bool.and_false, Bool.true_and, Bool.false_and, ne_eq, not_false_eq_true, not_true_eq_false, reduceCtorEq, VH.eq_str, VH.ne_str, VH.eq_int, VH.ne_int, VH.add_int, VH.le_int, VH.lt_int, VH.gt_int, VH.ge_int, VH.ixt0, VH.ixt1, VH.ixt2, VH.ixl0, VH.ixl1, VH.tup0, VH.tup1, VH.tup2, VH.tup3, VH.lst0, VH.lst1, VH.lst2, VH.lst3, VH.len_list, VH.len_tuple, VH.items_list, VH.items_tuple, dropE, tmD, is_ne_var, newVar]
  | var x =>
    have h := nin_strs x ns
    by_cases hx : x ∈ ns
    · have h2 : decide (x ∈ ns) = true := decide_eq_true hx
      simp only [pr_run, out, oR, sSeq, sIf, eP, ePk, ePkT, eFr, frzS, frz1, shE, VH.shS_sh, VH.shS_lst, VH.shS_dic, VH.shS_scr, VH.shS_none, pVar, pC, pBin, pChain, pUn, pMap, pB, pTru, pNN, pNNo, pAnd, pOr, pNot, pAndV, pOrV, pNotV, pIf, pNil, pCons, pAll, pPart, pPart0, pSl, pM1, pSeq, pSeq2, pCall_pr, pGet2, pGet3, isDic, Pr.bind, Pr.lift, eAnd, eOr, eNot, eB, bnd, eBin, eUn, eSub, eC, VH.ret, lift, eVar, eSh, eFz, sSet, sRet, sPut, sAsg, sPar, sPar3, sFz, tgN, tgT, tgSeq, eAll, eCons, eNil, eIf, sDo, sApp, sExt, sNext, oLst, oAdd, oIf, oList, oDic0, eMov, eSl, ePart, eCallU, aNil, aVal, aBor, takeA, putA, sRaise, List.getElem?_cons_zero, List.getElem?_cons_succ, List.set_cons_zero, List.set_cons_succ, Nat.reduceSub, Nat.reduceAdd, Nat.reduceLT, Nat.reduceLeDiff, Option.bind, Option.map, O.fzb, O.fzbK, fz, blD, VH.isN_none, VH.isN_int, VH.isN_str, VH.isN_bool, VH.isN_tup, VH.isN_lst, VH.isN_dic, vi_int, vi_bool, vi_str, vi_tuple, vi_list, vi_dict, truD, flR, flRA, List.map_cons, List.map_nil, List.replicate, List.cons_append, List.nil_append, List.length_cons, List.length_nil, if_true, if_false, ite_true, ite_false, Bool.false_eq_true, decide_true, decide_false, beq_self_eq_true, Bool.not_true, Bool.not_false, and_self, and_true, true_and, and_false, false_and, Bool.or_true, Bool.true_or, Bool.or_false, Bool.false_or, Bool.and_true, Bool.and_false, Bool.true_and, Bool.false_and, ne_eq, not_false_eq_true, not_true_eq_false, reduceCtorEq, VH.eq_str, VH.ne_str, VH.eq_int, VH.ne_int, VH.add_int, VH.le_int, VH.lt_int, VH.gt_int, VH.ge_int, VH.ixt0, VH.ixt1, VH.ixt2, VH.ixl0, VH.ixl1, VH.tup0, VH.tup1, VH.tup2, VH.tup3, VH.lst0, VH.lst1, VH.lst2, VH.lst3, VH.len_list, VH.len_tuple, VH.items_list, VH.items_tuple, dropE, tmD, h, h2, newVar, if_pos hx]
    · have h2 : decide (x ∈ ns) = false := decide_eq_false hx
      simp only [pr_run, out, oR, sSeq, sIf, eP, ePk, ePkT, eFr, frzS, frz1, shE, VH.shS_sh, VH.shS_lst, VH.shS_dic, VH.shS_scr, VH.shS_none, pVar, pC, pBin, pChain, pUn, pMap, pB, pTru, pNN, pNNo, pAnd, pOr, pNot, pAndV, pOrV, pNotV, pIf, pNil, pCons, pAll, pPart, pPart0, pSl, pM1, pSeq, pSeq2, pCall_pr, pGet2, pGet3, isDic, Pr.bind, Pr.lift, eAnd, eOr, eNot, eB, bnd, eBin, eUn, eSub, eC, VH.ret, lift, eVar, eSh, eFz, sSet, sRet, sPut, sAsg, sPar, sPar3, sFz, tgN, tgT, tgSeq, eAll, eCons, eNil, eIf, sDo, sApp, sExt, sNext, oLst, oAdd, oIf, oList, oDic0, eMov, eSl, ePart, eCallU, aNil, aVal, aBor, takeA, putA, sRaise, List.getElem?_cons_zero, List.getElem?_cons_succ, List.set_cons_zero, List.set_cons_succ, Nat.reduceSub, Nat.reduceAdd, Nat.reduceLT, Nat.reduceLeDiff, Option.bind, Option.map, O.fzb, O.fzbK, fz, blD, VH.isN_none, VH.isN_int, VH.isN_str, VH.isN_bool, VH.isN_tup, VH.isN_lst, VH.isN_dic, vi_int, vi_bool, vi_str, vi_tuple, vi_list, vi_dict, truD, flR, flRA, List.map_cons, List.map_nil, List.replicate, List.cons_append, List.nil_append, List.length_cons, List.length_nil, if_true, if_false, ite_true, ite_false, Bool.false_eq_true, decide_true, decide_false, beq_self_eq_true, Bool.not_true, Bool.not_false, and_self, and_true, true_and, and_false, false_and, Bool.or_true, Bool.true_or, Bool.or_false, Bool.false_or, Bool.and_true, Bool.and_false, Bool.true_and, Bool.false_and, ne_eq, not_false_eq_true, not_true_eq_false, reduceCtorEq, VH.eq_str, VH.ne_str, VH.eq_int, VH.ne_int, VH.add_int, VH.le_int, VH.lt_int, VH.gt_int, VH.ge_int, VH.ixt0, VH.ixt1, VH.ixt2, VH.ixl0, VH.ixl1, VH.tup0, VH.tup1, VH.tup2, VH.tup3, VH.lst0, VH.lst1, VH.lst2, VH.lst3, VH.len_list, VH.len_tuple, VH.items_list, VH.items_tuple, dropE, tmD, h, h2, newVar, if_neg hx]
theorem add_list {xs ys : List D} (h : xs.length + ys.length ≤ 1000) : addD (.list xs) (.list ys) = some (.list (xs ++ ys)) := by
  show (if xs.length + ys.length ≤ sizeLine then some (PyData.list (xs ++ ys)) else none) = _
  rw [if_pos (le_line h)]
theorem GAtom.var {s : Sch} {a : Atom} (g : GAtom s a) {x : Str} (h : Term.var x ∈ a.2) : x ∈ ivars ∨ x ∈ tvars := by
  obtain ⟨cs, _, hl, hg⟩ := g.ex
  obtain ⟨i, hi, e⟩ := List.getElem_of_mem h
  have hp : (a.2[i], cs[i]'(by omega)) ∈ a.2.zip cs := by
    have : (a.2.zip cs)[i]'(by rw [List.length_zip]; omega) = (a.2[i], cs[i]'(by omega)) := List.getElem_zip
    rw [← this]
    exact List.getElem_mem _
  have h2 := hg _ hp
  rw [e] at h2
  have h3 : x ∈ varsOf (cs[i]'(by omega)).int := h2
  unfold varsOf at h3
  split at h3
  · exact .inl h3
  · exact .inr h3
theorem names_loop {s : Sch} (all : List Atom) (hg : ∀ a ∈ all, GAtom s a) (h4 : ∀ a ∈ all, a.2.length ≤ 4) (hall : all.length ≤ 100) (u0 u1 u2 u3 u4 u5 u7 u11 : Option O) (v6 v9 v10 : Option O) :
    ∃ (ns : List Str) (w6 w9 w10 : Option O), loopS (tgT 2 [tgN 6, tgN 9]) (L2__law_question r__law_take r__law_term) (all.map atD) [u0, u1, u2, u3, u4, u5, v6, u7, some (.sh (.list [])), v9, v10, u11] =
      .ok .nx [u0, u1, u2, u3, u4, u5, w6, u7, some (.sh (.list (ns.map .str))), w9, w10, u11] ∧ (∀ x ∈ ns, isVarS all x) ∧ ns.length ≤ 4 * all.length := by
  obtain ⟨env', h1, ns, w6, w9, w10, rfl, hn, hl⟩ := loop_ex (e := atD) (tg := tgT 2 [tgN 6, tgN 9]) (body := L2__law_question r__law_take r__law_term) (all := all)
    (I := fun pre env => ∃ (ns : List Str) (w6 w9 w10 : Option O), env = [u0, u1, u2, u3, u4, u5, w6, u7, some (.sh (.list (ns.map .str))), w9, w10, u11] ∧ (∀ x ∈ ns, isVarS all x) ∧ ns.length ≤ 4 * pre.length) (fun pre a post env hp ⟨ns, w6, w9, w10, he, hn, hl⟩ => by
      subst he
      obtain ⟨t, ts⟩ := a
      have ha : (t, ts) ∈ all := by rw [hp]; simp
      have hpl : pre.length < all.length := by rw [hp]; simp
      have h4' : ts.length ≤ 4 := h4 _ ha
      have hf : (ts.filterMap (newVar ns)).length ≤ 4 := Nat.le_trans (List.length_filterMap_le _ _) h4'
      have hc := names_comp ns ts (shS u0) (shS u1) (shS u2) (shS u3) (shS u4) (shS u5) (some (.sh (.str t))) (shS u7) (shS u11) (shS w10)
      have hadd := add_list (xs := ns.map .str) (ys := (ts.filterMap (newVar ns)).map .str) (by rw [List.length_map, List.length_map]; omega)
      refine ⟨[u0, u1, u2, u3, u4, u5, some (.sh (.str t)), u7, some (.sh (.list (ns.map .str))), some (.sh (.tuple (ts.map tmD))), w10, u11], [u0, u1, u2, u3, u4, u5, some (.sh (.str t)), u7, some (.sh (.list ((ns ++ ts.filterMap (newVar ns)).map .str))), some (.sh (.tuple (ts.map tmD))), w10, u11], by simp only [pr_run, out, oR, sSeq, sIf, eP, ePk, ePkT, eFr, frzS, frz1, shE, VH.shS_sh, VH.shS_lst, VH.shS_dic, VH.shS_scr, VH.shS_none, pVar, pC, pBin, pChain, pUn, pMap, pB, pTru, pNN, pNNo, pAnd, pOr, pNot, pAndV, pOrV, pNotV, pIf, pNil, pCons, pAll, pPart, pPart0, pSl, pM1, pSeq, pSeq2, pCall_pr, pGet2, pGet3, isDic, Pr.bind, Pr.lift, eAnd, eOr, eNot, eB, bnd, eBin, eUn, eSub, eC, VH.ret, lift, eVar, eSh, eFz, sSet, sRet, sPut, sAsg, sPar, sPar3, sFz, tgN, tgT, tgSeq, eAll, eCons, eNil, eIf, sDo, sApp, sExt, sNext, oLst, oAdd, oIf, oList, oDic0, eMov, eSl, ePart, eCallU, aNil, aVal, aBor, takeA, putA, sRaise, List.getElem?_cons_zero, List.getElem?_cons_succ, List.set_cons_zero, List.set_cons_succ, Nat.reduceSub, Nat.reduceAdd, Nat.reduceLT, Nat.reduceLeDiff, Option.bind, Option.map, O.fzb, O.fzbK, fz, blD, VH.isN_none, VH.isN_int, VH.isN_str, VH.isN_bool, VH.isN_tup, VH.isN_lst, VH.isN_dic, vi_int, vi_bool, vi_str, vi_tuple, vi_list, vi_dict, truD, flR, flRA, List.map_cons, List.map_nil, List.replicate, List.cons_append, List.nil_append, List.length_cons, List.length_nil, if_true, if_false, ite_true, ite_false, Bool.false_eq_true, decide_true, decide_false, beq_self_eq_true, Bool.not_true, Bool.not_false, and_self, and_true, true_and, and_false, false_and, Bool.or_true, Bool.true_or, Bool.or_false, Bool.false_or, Bool.and_true, Bool.and_false, Bool.true_and, Bool.false_and, ne_eq, not_false_eq_true, not_true_eq_false, reduceCtorEq, VH.eq_str, VH.ne_str, VH.eq_int, VH.ne_int, VH.add_int, VH.le_int, VH.lt_int, VH.gt_int, VH.ge_int, VH.ixt0, VH.ixt1, VH.ixt2, VH.ixl0, VH.ixl1, VH.tup0, VH.tup1, VH.tup2, VH.tup3, VH.lst0, VH.lst1, VH.lst2, VH.lst3, VH.len_list, VH.len_tuple, VH.items_list, VH.items_tuple, atD], ?_, ns ++ ts.filterMap (newVar ns), _, _, _, rfl, fun x hx => ?_, by simp; omega⟩
      · rw [List.map_append]
        simp only [pr_run, out, oR, sSeq, sIf, eP, ePk, ePkT, eFr, frzS, frz1, shE, VH.shS_sh, VH.shS_lst, VH.shS_dic, VH.shS_scr, VH.shS_none, pVar, pC, pBin, pChain, pUn, pMap, pB, pTru, pNN, pNNo, pAnd, pOr, pNot, pAndV, pOrV, pNotV, pIf, pNil, pCons, pAll, pPart, pPart0, pSl, pM1, pSeq, pSeq2, pCall_pr, pGet2, pGet3, isDic, Pr.bind, Pr.lift, eAnd, eOr, eNot, eB, bnd, eBin, eUn, eSub, eC, VH.ret, lift, eVar, eSh, eFz, sSet, sRet, sPut, sAsg, sPar, sPar3, sFz, tgN, tgT, tgSeq, eAll, eCons, eNil, eIf, sDo, sApp, sExt, sNext, oLst, oAdd, oIf, oList, oDic0, eMov, eSl, ePart, eCallU, aNil, aVal, aBor, takeA, putA, sRaise, List.getElem?_cons_zero, List.getElem?_cons_succ, List.set_cons_zero, List.set_cons_succ, Nat.reduceSub, Nat.reduceAdd, Nat.reduceLT, Nat.reduceLeDiff, Option.bind, Option.map, O.fzb, O.fzbK, fz, blD, VH.isN_none, VH.isN_int, VH.isN_str, VH.isN_bool, VH.isN_tup, VH.isN_lst, VH.isN_dic, vi_int, vi_bool, vi_str, vi_tuple, vi_list, vi_dict, truD, flR, flRA, List.map_cons, List.map_nil, List.replicate, List.cons_append, List.nil_append, List.length_cons, List.length_nil, if_true, if_false, ite_true, ite_false, Bool.false_eq_true, decide_true, decide_false, beq_self_eq_true, Bool.not_true, Bool.not_false, and_self, and_true, true_and, and_false, false_and, Bool.or_true, Bool.true_or, Bool.or_false, Bool.false_or, Bool.and_true, Bool.and_false, Bool.true_and, Bool.false_and, ne_eq, not_false_eq_true, not_true_eq_false, reduceCtorEq, VH.eq_str, VH.ne_str, VH.eq_int, VH.ne_int, VH.add_int, VH.le_int, VH.lt_int, VH.gt_int, VH.ge_int, VH.ixt0, VH.ixt1, VH.ixt2, VH.ixl0, VH.ixl1, VH.tup0, VH.tup1, VH.tup2, VH.tup3, VH.lst0, VH.lst1, VH.lst2, VH.lst3, VH.len_list, VH.len_tuple, VH.items_list, VH.items_tuple, L2__law_question, hc, hadd]
      · rcases List.mem_append.mp hx with hx | hx
        · exact hn x hx
        · obtain ⟨tm, htm, e⟩ := List.mem_filterMap.mp hx
          cases tm with
          | any => cases e
          | is v => cases e
          | var y =>
            simp only [newVar] at e
            split at e
            · cases e
            · cases e
              exact ⟨⟨_, ha, htm⟩, (hg _ ha).var htm⟩) all [] _ rfl ⟨[], v6, v9, v10, rfl, (fun _ h => nomatch h), by simp⟩
  exact ⟨ns, w6, w9, w10, h1, hn, hl⟩
theorem ok_vars {all : List Atom} {ns : List Str} (h : ∀ x ∈ ns, isVarS all x) : ∀ x ∈ ns, PyData.strOk x = true := fun x hx => by
  rcases (h x hx).2 with h | h
  · exact vars_ok true x h
  · exact vars_ok false x h
theorem head_loop (all : List Atom) (ns : List Str) (hn : ∀ x ∈ ns, isVarS all x) (hl : ns.length ≤ 1000) (u1 u2 u3 u4 u6 u7 u9 u10 : Option O) (n : Nat) (hN : n ≤ 100) (T : Tape) (v5 : Option O) :
    ∃ (hd : List Str) (T' : Tape) (w5 : Option O), loopS (tgN 5) (L3__law_question r__law_take r__law_term) (rngL 0 n) [some (tapeO T), u1, u2, u3, u4, v5, u6, u7, some (.sh (.list (ns.map .str))), u9, u10, some (.lst [])] =
      .ok .nx [some (tapeO T'), u1, u2, u3, u4, w5, u6, u7, some (.sh (.list (ns.map .str))), u9, u10, some (.lst (hd.map .str))] ∧ (∀ x ∈ hd, x ∈ ns) ∧ hd.length ≤ n := by
  rw [rngL_map]
  obtain ⟨env', h1, hd, T2, w5, rfl, hh, hlen⟩ := loop_ex (e := fun (i : Nat) => PyData.int (0 + i)) (tg := tgN 5) (body := L3__law_question r__law_take r__law_term) (all := List.range n)
    (I := fun pre env => ∃ (hd : List Str) (T : Tape) (w5 : Option O), env = [some (tapeO T), u1, u2, u3, u4, w5, u6, u7, some (.sh (.list (ns.map .str))), u9, u10, some (.lst (hd.map .str))] ∧ (∀ x ∈ hd, x ∈ ns) ∧ hd.length ≤ pre.length) (fun pre a post env hp ⟨hd, T, w5, he, hh, hlen⟩ => by
      subst he
      have hpl : pre.length < n := by
        have := congrArg List.length hp
        rw [List.length_range, List.length_append, List.length_cons] at this
        omega
      have hne := ne_nil (ok_vars hn)
      cases hns : ns with
      | nil =>
        rw [hns] at hne
        refine ⟨_, [some (tapeO T), u1, u2, u3, u4, some (.sh (.int (0 + a))), u6, u7, some (.sh (.list (([] : List Str).map .str))), u9, u10, some (.lst (hd.map .str))], rfl, ?_, hd, T, _, rfl, by rw [← hns]; exact hh, by simp; omega⟩
        simp only [pr_run, out, oR, sSeq, sIf, eP, ePk, ePkT, eFr, frzS, frz1, shE, VH.shS_sh, VH.shS_lst, VH.shS_dic, VH.shS_scr, VH.shS_none, pVar, pC, pBin, pChain, pUn, pMap, pB, pTru, pNN, pNNo, pAnd, pOr, pNot, pAndV, pOrV, pNotV, pIf, pNil, pCons, pAll, pPart, pPart0, pSl, pM1, pSeq, pSeq2, pCall_pr, pGet2, pGet3, isDic, Pr.bind, Pr.lift, eAnd, eOr, eNot, eB, bnd, eBin, eUn, eSub, eC, VH.ret, lift, eVar, eSh, eFz, sSet, sRet, sPut, sAsg, sPar, sPar3, sFz, tgN, tgT, tgSeq, eAll, eCons, eNil, eIf, sDo, sApp, sExt, sNext, oLst, oAdd, oIf, oList, oDic0, eMov, eSl, ePart, eCallU, aNil, aVal, aBor, takeA, putA, sRaise, List.getElem?_cons_zero, List.getElem?_cons_succ, List.set_cons_zero, List.set_cons_succ, Nat.reduceSub, Nat.reduceAdd, Nat.reduceLT, Nat.reduceLeDiff, Option.bind, Option.map, O.fzb, O.fzbK, fz, blD, VH.isN_none, VH.isN_int, VH.isN_str, VH.isN_bool, VH.isN_tup, VH.isN_lst, VH.isN_dic, vi_int, vi_bool, vi_str, vi_tuple, vi_list, vi_dict, truD, flR, flRA, List.map_cons, List.map_nil, List.replicate, List.cons_append, List.nil_append, List.length_cons, List.length_nil, if_true, if_false, ite_true, ite_false, Bool.false_eq_true, decide_true, decide_false, beq_self_eq_true, Bool.not_true, Bool.not_false, and_self, and_true, true_and, and_false, false_and, Bool.or_true, Bool.true_or, Bool.or_false, Bool.false_or, Bool.and_true, Bool.and_false, Bool.true_and, Bool.false_and, ne_eq, not_false_eq_true, not_true_eq_false, reduceCtorEq, VH.eq_str, VH.ne_str, VH.eq_int, VH.ne_int, VH.add_int, VH.le_int, VH.lt_int, VH.gt_int, VH.ge_int, VH.ixt0, VH.ixt1, VH.ixt2, VH.ixl0, VH.ixl1, VH.tup0, VH.tup1, VH.tup2, VH.tup3, VH.lst0, VH.lst1, VH.lst2, VH.lst3, VH.len_list, VH.len_tuple, VH.items_list, VH.items_tuple, L3__law_question]
        have h2 : neD (.list []) (.list []) = some (.bool false) := hne
        simp only [pr_run, out, oR, sSeq, sIf, eP, ePk, ePkT, eFr, frzS, frz1, shE, VH.shS_sh, VH.shS_lst, VH.shS_dic, VH.shS_scr, VH.shS_none, pVar, pC, pBin, pChain, pUn, pMap, pB, pTru, pNN, pNNo, pAnd, pOr, pNot, pAndV, pOrV, pNotV, pIf, pNil, pCons, pAll, pPart, pPart0, pSl, pM1, pSeq, pSeq2, pCall_pr, pGet2, pGet3, isDic, Pr.bind, Pr.lift, eAnd, eOr, eNot, eB, bnd, eBin, eUn, eSub, eC, VH.ret, lift, eVar, eSh, eFz, sSet, sRet, sPut, sAsg, sPar, sPar3, sFz, tgN, tgT, tgSeq, eAll, eCons, eNil, eIf, sDo, sApp, sExt, sNext, oLst, oAdd, oIf, oList, oDic0, eMov, eSl, ePart, eCallU, aNil, aVal, aBor, takeA, putA, sRaise, List.getElem?_cons_zero, List.getElem?_cons_succ, List.set_cons_zero, List.set_cons_succ, Nat.reduceSub, Nat.reduceAdd, Nat.reduceLT, Nat.reduceLeDiff, Option.bind, Option.map, O.fzb, O.fzbK, fz, blD, VH.isN_none, VH.isN_int, VH.isN_str, VH.isN_bool, VH.isN_tup, VH.isN_lst, VH.isN_dic, vi_int, vi_bool, vi_str, vi_tuple, vi_list, vi_dict, truD, flR, flRA, List.map_cons, List.map_nil, List.replicate, List.cons_append, List.nil_append, List.length_cons, List.length_nil, if_true, if_false, ite_true, ite_false, Bool.false_eq_true, decide_true, decide_false, beq_self_eq_true, Bool.not_true, Bool.not_false, and_self, and_true, true_and, and_false, false_and, Bool.or_true, Bool.true_or, Bool.or_false, Bool.false_or, Bool.and_true, Bool.and_false, Bool.true_and, Bool.false_and, ne_eq, not_false_eq_true, not_true_eq_false, reduceCtorEq, VH.eq_str, VH.ne_str, VH.eq_int, VH.ne_int, VH.add_int, VH.le_int, VH.lt_int, VH.gt_int, VH.ge_int, VH.ixt0, VH.ixt1, VH.ixt2, VH.ixl0, VH.ixl1, VH.tup0, VH.tup1, VH.tup2, VH.tup3, VH.lst0, VH.lst1, VH.lst2, VH.lst3, VH.len_list, VH.len_tuple, VH.items_list, VH.items_tuple, h2]
      | cons x xs =>
        rw [← hns]
        have hz : ns.isEmpty = false := by rw [hns]; rfl
        rw [hz] at hne
        have hpos : 0 < ns.length := by rw [hns]; simp
        obtain ⟨r, T1, e1, hr⟩ := take_ex T (m := ns.length) (by omega) (by omega)
        have hr' : r < ns.length := by omega
        have ei : idxD (.list (ns.map .str)) (.int r) = some (.str ns[r]) := atI_nat (by simp [hr'])
        have e1' : r__law_take [tapeO T, .sh (.int ((ns.map PyData.str).length : Nat))] = .ok (.sh (.int r)) [some (tapeO T1), none] := by rw [List.length_map]; exact e1
        have hl2 : (hd.map PyData.str).length < sizeLine := line_1000 (by rw [List.length_map]; omega)
        refine ⟨_, [some (tapeO T1), u1, u2, u3, u4, some (.sh (.int (0 + a))), u6, u7, some (.sh (.list (ns.map .str))), u9, u10, some (.lst ((hd ++ [ns[r]]).map .str))], rfl, ?_, hd ++ [ns[r]], T1, _, rfl, fun x hx => ?_, by simp; omega⟩
        · rw [List.map_append]
          generalize (ns.map PyData.str) = N at *
          generalize hX : (hd.map PyData.str) = X at *
          simp only [pr_run, out, oR, sSeq, sIf, eP, ePk, ePkT, eFr, frzS, frz1, shE, VH.shS_sh, VH.shS_lst, VH.shS_dic, VH.shS_scr, VH.shS_none, pVar, pC, pBin, pChain, pUn, pMap, pB, pTru, pNN, pNNo, pAnd, pOr, pNot, pAndV, pOrV, pNotV, pIf, pNil, pCons, pAll, pPart, pPart0, pSl, pM1, pSeq, pSeq2, pCall_pr, pGet2, pGet3, isDic, Pr.bind, Pr.lift, eAnd, eOr, eNot, eB, bnd, eBin, eUn, eSub, eC, VH.ret, lift, eVar, eSh, eFz, sSet, sRet, sPut, sAsg, sPar, sPar3, sFz, tgN, tgT, tgSeq, eAll, eCons, eNil, eIf, sDo, sApp, sExt, sNext, oLst, oAdd, oIf, oList, oDic0, eMov, eSl, ePart, eCallU, aNil, aVal, aBor, takeA, putA, sRaise, List.getElem?_cons_zero, List.getElem?_cons_succ, List.set_cons_zero, List.set_cons_succ, Nat.reduceSub, Nat.reduceAdd, Nat.reduceLT, Nat.reduceLeDiff, Option.bind, Option.map, O.fzb, O.fzbK, fz, blD, VH.isN_none, VH.isN_int, VH.isN_str, VH.isN_bool, VH.isN_tup, VH.isN_lst, VH.isN_dic, vi_int, vi_bool, vi_str, vi_tuple, vi_list, vi_dict, truD, flR, flRA, List.map_cons, List.map_nil, List.replicate, List.cons_append, List.nil_append, List.length_cons, List.length_nil, if_true, if_false, ite_true, ite_false, Bool.false_eq_true, decide_true, decide_false, beq_self_eq_true, Bool.not_true, Bool.not_false, and_self, and_true, true_and, and_false, false_and, Bool.or_true, Bool.true_or, Bool.or_false, Bool.false_or, Bool.and_true, Bool.and_false, Bool.true_and, Bool.false_and, ne_eq, not_false_eq_true, not_true_eq_false, reduceCtorEq, VH.eq_str, VH.ne_str, VH.eq_int, VH.ne_int, VH.add_int, VH.le_int, VH.lt_int, VH.gt_int, VH.ge_int, VH.ixt0, VH.ixt1, VH.ixt2, VH.ixl0, VH.ixl1, VH.tup0, VH.tup1, VH.tup2, VH.tup3, VH.lst0, VH.lst1, VH.lst2, VH.lst3, VH.len_list, VH.len_tuple, VH.items_list, VH.items_tuple, L3__law_question, hne, e1', ei, hl2]
        · rcases List.mem_append.mp hx with hx | hx
          · exact hh x hx
          · rw [List.mem_singleton.mp hx]; exact List.getElem_mem _) (List.range n) [] [some (tapeO T), u1, u2, u3, u4, v5, u6, u7, some (.sh (.list (ns.map .str))), u9, u10, some (.lst [])] rfl ⟨[], T, v5, rfl, (fun _ h => nomatch h), by simp⟩
  exact ⟨hd, T2, w5, h1, hh, by simpa using hlen⟩
end VC
set_option Elab.async false
set_option linter.all false
set_option maxRecDepth 100000
set_option maxHeartbeats 4000000
namespace VC
open PySem PySem.Spec PyProof.Rows L2 VH
theorem WCols.len {cs : List Col} (w : WCols cs) : cs.length ≤ 4 := by
  obtain ⟨b, rest, k, rfl, hk, hr⟩ := w.ex
  have := congrArg List.length hr
  rw [List.length_map, List.length_take] at this
  have h3 : cnms.length = 3 := rfl
  rw [List.length_cons]
  omega
theorem lookup_in {s : Sch} {t : Str} {cs : List Col} (h : s.lookup t = some cs) : (t, cs) ∈ s := by
  induction s with
  | nil => cases h
  | cons p s ih =>
    rw [List.lookup_cons] at h
    cases hx : (t == p.1) with
    | true =>
      rw [hx] at h
      have e1 : t = p.1 := by simpa using hx
      have e2 : p.2 = cs := by simpa using h
      rw [e1, ← e2]
      exact List.mem_cons_self
    | false =>
      rw [hx] at h
      exact List.mem_cons_of_mem _ (ih h)
theorem GAtom.len {s : Sch} (w : WSch s) {a : Atom} (g : GAtom s a) : a.2.length ≤ 4 := by
  obtain ⟨cs, hc, hl, _⟩ := g.ex
  have := (w.cs _ (lookup_in hc)).len
  rw [hl]; exact this
theorem atoms_loop {s : Sch} (w : WSch s) (T : Tape) (u2 : Option O) (n : Nat) (hn : n ≤ 100) : ∃ (as : List Atom) (T' : Tape) (v5 v6 : Option O), loopS (tgN 5) (L1__law_question r__law_take r__law_term) (rngL 0 n)
    [some (tapeO T), some (.sh (scD s)), u2, some (.sh (.list ((s.map (·.1)).map .str))), some (.lst []), none, none, none, none, none, none, none] =
      .ok .nx [some (tapeO T'), some (.sh (scD s)), u2, some (.sh (.list ((s.map (·.1)).map .str))), some (.lst (as.map atD)), v5, v6, none, none, none, none, none] ∧ as.length = n ∧ ∀ a ∈ as, GAtom s a := by
  rw [rngL_map]
  obtain ⟨env', h1, as, T2, v5, v6, rfl, hl, hg⟩ := loop_ex (e := fun (i : Nat) => PyData.int (0 + i)) (tg := tgN 5) (body := L1__law_question r__law_take r__law_term) (all := List.range n)
    (I := fun pre env => ∃ (as : List Atom) (T : Tape) (v5 v6 : Option O), env = [some (tapeO T), some (.sh (scD s)), u2, some (.sh (.list ((s.map (·.1)).map .str))), some (.lst (as.map atD)), v5, v6, none, none, none, none, none] ∧ as.length = pre.length ∧ ∀ a ∈ as, GAtom s a) (fun pre a post env hp ⟨as, T, v5, v6, he, hl, hg⟩ => by
      subst he
      have hpl : pre.length < n := by
        have := congrArg List.length hp
        rw [List.length_range, List.length_append, List.length_cons] at this
        omega
      obtain ⟨a2, T2, w6, ga, e⟩ := atom_turn w T u2 (some (.sh (.int (0 + a)))) v6 none none none none as (by omega) none
      exact ⟨_, _, rfl, e, as ++ [a2], T2, _, w6, rfl, by simp; omega, fun x hx => by
        rcases List.mem_append.mp hx with hx | hx
        · exact hg x hx
        · rw [List.mem_singleton.mp hx]; exact ga⟩) (List.range n) [] _ rfl ⟨[], T, none, none, rfl, rfl, (fun _ h => nomatch h)⟩
  exact ⟨as, T2, v5, v6, h1, by simpa using hl, hg⟩
mutual
theorem fl_strs : ∀ xs : List Str, flRA (xs.map .str) = true
  | [] => rfl
  | x :: xs => by
    show (true && flRA (xs.map .str)) = true
    rw [fl_strs xs]; rfl
end
theorem fl_vD (v : Val) : flR (vD v) = true := by
  cases v with
  | none => rfl
  | some k => cases k <;> rfl
theorem fl_tm (t : Term) : flR (tmD t) = true := by
  cases t with
  | any => rfl
  | is v => show (true && (flR (vD v) && true)) = true; rw [fl_vD]; rfl
  | var x => rfl
theorem fl_tms : ∀ ts : List Term, flRA (ts.map tmD) = true
  | [] => rfl
  | t :: ts => by
    show (flR (tmD t) && flRA (ts.map tmD)) = true
    rw [fl_tm, fl_tms ts]; rfl
theorem fl_at (a : Atom) : flR (atD a) = true := by
  show (true && (flRA (a.2.map tmD) && true)) = true
  rw [fl_tms]; rfl
theorem fl_ats : ∀ as : List Atom, flRA (as.map atD) = true
  | [] => rfl
  | a :: as => by
    show (flR (atD a) && flRA (as.map atD)) = true
    rw [fl_at, fl_ats as]; rfl
theorem question_ex {s : Sch} (w : WSch s) (T : Tape) {m : Nat} (h0 : 0 < m) (hm : m ≤ 50) : ∃ (q : Qn) (T' : Tape), r__law_question [tapeO T, .sh (scD s), .sh (.int m)] = .ok (.sh (qD q)) [some (tapeO T'), none, none] ∧ GQ s m q := by
  unfold r__law_question fnRun b__law_question
  simp only [List.map_cons, List.map_nil, List.length_cons, List.length_nil, Nat.reduceSub, Nat.reduceAdd, List.replicate, List.cons_append, List.nil_append]
  have e0 := sort_sc w
  obtain ⟨k, T1, e1, hk⟩ := take_ex T (m := m) (by omega) (by omega)
  obtain ⟨as, T2, v5, v6, e2, hlen, hg⟩ := atoms_loop w T1 (some (.sh (.int m))) (1 + k) (by omega)
  obtain ⟨ns, w6, w9, w10, e3, hns, hnl⟩ := names_loop as hg (fun a ha => (hg a ha).len w) (by omega) (some (tapeO T2)) (some (.sh (scD s))) (some (.sh (.int m))) (some (.sh (.list ((s.map (·.1)).map .str)))) (some (.sh (.list (as.map atD)))) v5 none none v6 none none
  obtain ⟨n, T3, e4, hn⟩ := take_ex T2 (m := 3) (by decide) (by decide)
  obtain ⟨hd, T4, w5, e5, hh, hhl⟩ := head_loop as ns hns (by omega) (some (.sh (scD s))) (some (.sh (.int m))) (some (.sh (.list ((s.map (·.1)).map .str)))) (some (.sh (.list (as.map atD)))) w6 none w9 w10 n (by omega) T3 v5
  refine ⟨⟨hd, as⟩, T4, ?_, ⟨by dsimp only; omega, by dsimp only; omega, hg, by dsimp only; omega, fun x hx => (hns x (hh x hx)).1⟩⟩
  rw [seq_ok (e := [some (tapeO T), some (.sh (scD s)), some (.sh (.int m)), some (.sh (.list ((s.map (·.1)).map .str))), none, none, none, none, none, none, none, none])]
  rotate_left
  · simp only [pr_run, out, oR, sSeq, sIf, eP, ePk, ePkT, eFr, frzS, frz1, shE, VH.shS_sh, VH.shS_lst, VH.shS_dic, VH.shS_scr, VH.shS_none, pVar, pC, pBin, pChain, pUn, pMap, pB, pTru, pNN, pNNo, pAnd, pOr, pNot, pAndV, pOrV, pNotV, pIf, pNil, pCons, pAll, pPart, pPart0, pSl, pM1, pSeq, pSeq2, pCall_pr, pGet2, pGet3, isDic, Pr.bind, Pr.lift, eAnd, eOr, eNot, eB, bnd, eBin, eUn, eSub, eC, VH.ret, lift, eVar, eSh, eFz, sSet, sRet, sPut, sAsg, sPar, sPar3, sFz, tgN, tgT, tgSeq, eAll, eCons, eNil, eIf, sDo, sApp, sExt, sNext, oLst, oAdd, oIf, oList, oDic0, eMov, eSl, ePart, eCallU, aNil, aVal, aBor, takeA, putA, sRaise, List.getElem?_cons_zero, List.getElem?_cons_succ, List.set_cons_zero, List.set_cons_succ, Nat.reduceSub, Nat.reduceAdd, Nat.reduceLT, Nat.reduceLeDiff, Option.bind, Option.map, O.fzb, O.fzbK, fz, blD, VH.isN_none, VH.isN_int, VH.isN_str, VH.isN_bool, VH.isN_tup, VH.isN_lst, VH.isN_dic, vi_int, vi_bool, vi_str, vi_tuple, vi_list, vi_dict, truD, flR, flRA, List.map_cons, List.map_nil, List.replicate, List.cons_append, List.nil_append, List.length_cons, List.length_nil, if_true, if_false, ite_true, ite_false, Bool.false_eq_true, decide_true, decide_false, beq_self_eq_true, Bool.not_true, Bool.not_false, and_self, and_true, true_and, and_false, false_and, Bool.or_true, Bool.true_or, Bool.or_false, Bool.false_or, Bool.and_true, Bool.and_false, Bool.true_and, Bool.false_and, ne_eq, not_false_eq_true, not_true_eq_false, reduceCtorEq, VH.eq_str, VH.ne_str, VH.eq_int, VH.ne_int, VH.add_int, VH.le_int, VH.lt_int, VH.gt_int, VH.ge_int, VH.ixt0, VH.ixt1, VH.ixt2, VH.ixl0, VH.ixl1, VH.tup0, VH.tup1, VH.tup2, VH.tup3, VH.lst0, VH.lst1, VH.lst2, VH.lst3, VH.len_list, VH.len_tuple, VH.items_list, VH.items_tuple, e0]
  rw [seq_ok (e := [some (tapeO T), some (.sh (scD s)), some (.sh (.int m)), some (.sh (.list ((s.map (·.1)).map .str))), some (.lst []), none, none, none, none, none, none, none])]
  rotate_left
  · simp only [pr_run, out, oR, sSeq, sIf, eP, ePk, ePkT, eFr, frzS, frz1, shE, VH.shS_sh, VH.shS_lst, VH.shS_dic, VH.shS_scr, VH.shS_none, pVar, pC, pBin, pChain, pUn, pMap, pB, pTru, pNN, pNNo, pAnd, pOr, pNot, pAndV, pOrV, pNotV, pIf, pNil, pCons, pAll, pPart, pPart0, pSl, pM1, pSeq, pSeq2, pCall_pr, pGet2, pGet3, isDic, Pr.bind, Pr.lift, eAnd, eOr, eNot, eB, bnd, eBin, eUn, eSub, eC, VH.ret, lift, eVar, eSh, eFz, sSet, sRet, sPut, sAsg, sPar, sPar3, sFz, tgN, tgT, tgSeq, eAll, eCons, eNil, eIf, sDo, sApp, sExt, sNext, oLst, oAdd, oIf, oList, oDic0, eMov, eSl, ePart, eCallU, aNil, aVal, aBor, takeA, putA, sRaise, List.getElem?_cons_zero, List.getElem?_cons_succ, List.set_cons_zero, List.set_cons_succ, Nat.reduceSub, Nat.reduceAdd, Nat.reduceLT, Nat.reduceLeDiff, Option.bind, Option.map, O.fzb, O.fzbK, fz, blD, VH.isN_none, VH.isN_int, VH.isN_str, VH.isN_bool, VH.isN_tup, VH.isN_lst, VH.isN_dic, vi_int, vi_bool, vi_str, vi_tuple, vi_list, vi_dict, truD, flR, flRA, List.map_cons, List.map_nil, List.replicate, List.cons_append, List.nil_append, List.length_cons, List.length_nil, if_true, if_false, ite_true, ite_false, Bool.false_eq_true, decide_true, decide_false, beq_self_eq_true, Bool.not_true, Bool.not_false, and_self, and_true, true_and, and_false, false_and, Bool.or_true, Bool.true_or, Bool.or_false, Bool.false_or, Bool.and_true, Bool.and_false, Bool.true_and, Bool.false_and, ne_eq, not_false_eq_true, not_true_eq_false, reduceCtorEq, VH.eq_str, VH.ne_str, VH.eq_int, VH.ne_int, VH.add_int, VH.le_int, VH.lt_int, VH.gt_int, VH.ge_int, VH.ixt0, VH.ixt1, VH.ixt2, VH.ixl0, VH.ixl1, VH.tup0, VH.tup1, VH.tup2, VH.tup3, VH.lst0, VH.lst1, VH.lst2, VH.lst3, VH.len_list, VH.len_tuple, VH.items_list, VH.items_tuple, Nat.zero_le]
  rw [seq_ok (e := [some (tapeO T2), some (.sh (scD s)), some (.sh (.int m)), some (.sh (.list ((s.map (·.1)).map .str))), some (.lst (as.map atD)), v5, v6, none, none, none, none, none])]
  rotate_left
  · rw [forI_eq (items := rngL 0 (1 + k)) (env1 := [some (tapeO T1), some (.sh (scD s)), some (.sh (.int m)), some (.sh (.list ((s.map (·.1)).map .str))), some (.lst []), none, none, none, none, none, none, none])]
    · exact e2
    · exact eRng_eq (z := ((1 + k : Nat) : Int)) (by rw [Int.natCast_add, Int.natCast_one]; simp only [pr_run, out, oR, sSeq, sIf, eP, ePk, ePkT, eFr, frzS, frz1, shE, VH.shS_sh, VH.shS_lst, VH.shS_dic, VH.shS_scr, VH.shS_none, pVar, pC, pBin, pChain, pUn, pMap, pB, pTru, pNN, pNNo, pAnd, pOr, pNot, pAndV, pOrV, pNotV, pIf, pNil, pCons, pAll, pPart, pPart0, pSl, pM1, pSeq, pSeq2, pCall_pr, pGet2, pGet3, isDic, Pr.bind, Pr.lift, eAnd, eOr, eNot, eB, bnd, eBin, eUn, eSub, eC, VH.ret, lift, eVar, eSh, eFz, sSet, sRet, sPut, sAsg, sPar, sPar3, sFz, tgN, tgT, tgSeq, eAll, eCons, eNil, eIf, sDo, sApp, sExt, sNext, oLst, oAdd, oIf, oList, oDic0, eMov, eSl, ePart, eCallU, aNil, aVal, aBor, takeA, putA, sRaise, List.getElem?_cons_zero, List.getElem?_cons_succ, List.set_cons_zero, List.set_cons_succ, Nat.reduceSub, Nat.reduceAdd, Nat.reduceLT, Nat.reduceLeDiff, Option.bind, Option.map, O.fzb, O.fzbK, fz, blD, VH.isN_none, VH.isN_int, VH.isN_str, VH.isN_bool, VH.isN_tup, VH.isN_lst, VH.isN_dic, vi_int, vi_bool, vi_str, vi_tuple, vi_list, vi_dict, truD, flR, flRA, List.map_cons, List.map_nil, List.replicate, List.cons_append, List.nil_append, List.length_cons, List.length_nil, if_true, if_false, ite_true, ite_false, Bool.false_eq_true, decide_true, decide_false, beq_self_eq_true, Bool.not_true, Bool.not_false, and_self, and_true, true_and, and_false, false_and, Bool.or_true, Bool.true_or, Bool.or_false, Bool.false_or, Bool.and_true, Bool.and_false, Bool.true_and, Bool.false_and, ne_eq, not_false_eq_true, not_true_eq_false, reduceCtorEq, VH.eq_str, VH.ne_str, VH.eq_int, VH.ne_int, VH.add_int, VH.le_int, VH.lt_int, VH.gt_int, VH.ge_int, VH.ixt0, VH.ixt1, VH.ixt2, VH.ixl0, VH.ixl1, VH.tup0, VH.tup1, VH.tup2, VH.tup3, VH.lst0, VH.lst1, VH.lst2, VH.lst3, VH.len_list, VH.len_tuple, VH.items_list, VH.items_tuple, e1]) (rng1_nat (k := 1 + k) (by omega))
  rw [seq_ok (e := [some (tapeO T2), some (.sh (scD s)), some (.sh (.int m)), some (.sh (.list ((s.map (·.1)).map .str))), some (.lst (as.map atD)), v5, v6, none, some (.sh (.list [])), none, none, none])]
  rotate_left
  · simp only [pr_run, out, oR, sSeq, sIf, eP, ePk, ePkT, eFr, frzS, frz1, shE, VH.shS_sh, VH.shS_lst, VH.shS_dic, VH.shS_scr, VH.shS_none, pVar, pC, pBin, pChain, pUn, pMap, pB, pTru, pNN, pNNo, pAnd, pOr, pNot, pAndV, pOrV, pNotV, pIf, pNil, pCons, pAll, pPart, pPart0, pSl, pM1, pSeq, pSeq2, pCall_pr, pGet2, pGet3, isDic, Pr.bind, Pr.lift, eAnd, eOr, eNot, eB, bnd, eBin, eUn, eSub, eC, VH.ret, lift, eVar, eSh, eFz, sSet, sRet, sPut, sAsg, sPar, sPar3, sFz, tgN, tgT, tgSeq, eAll, eCons, eNil, eIf, sDo, sApp, sExt, sNext, oLst, oAdd, oIf, oList, oDic0, eMov, eSl, ePart, eCallU, aNil, aVal, aBor, takeA, putA, sRaise, List.getElem?_cons_zero, List.getElem?_cons_succ, List.set_cons_zero, List.set_cons_succ, Nat.reduceSub, Nat.reduceAdd, Nat.reduceLT, Nat.reduceLeDiff, Option.bind, Option.map, O.fzb, O.fzbK, fz, blD, VH.isN_none, VH.isN_int, VH.isN_str, VH.isN_bool, VH.isN_tup, VH.isN_lst, VH.isN_dic, vi_int, vi_bool, vi_str, vi_tuple, vi_list, vi_dict, truD, flR, flRA, List.map_cons, List.map_nil, List.replicate, List.cons_append, List.nil_append, List.length_cons, List.length_nil, if_true, if_false, ite_true, ite_false, Bool.false_eq_true, decide_true, decide_false, beq_self_eq_true, Bool.not_true, Bool.not_false, and_self, and_true, true_and, and_false, false_and, Bool.or_true, Bool.true_or, Bool.or_false, Bool.false_or, Bool.and_true, Bool.and_false, Bool.true_and, Bool.false_and, ne_eq, not_false_eq_true, not_true_eq_false, reduceCtorEq, VH.eq_str, VH.ne_str, VH.eq_int, VH.ne_int, VH.add_int, VH.le_int, VH.lt_int, VH.gt_int, VH.ge_int, VH.ixt0, VH.ixt1, VH.ixt2, VH.ixl0, VH.ixl1, VH.tup0, VH.tup1, VH.tup2, VH.tup3, VH.lst0, VH.lst1, VH.lst2, VH.lst3, VH.len_list, VH.len_tuple, VH.items_list, VH.items_tuple]
  rw [seq_ok (e := [some (tapeO T2), some (.sh (scD s)), some (.sh (.int m)), some (.sh (.list ((s.map (·.1)).map .str))), some (.sh (.list (as.map atD))), v5, w6, none, some (.sh (.list (ns.map .str))), w9, w10, none])]
  rotate_left
  · rw [forI_eq (items := as.map atD) (env1 := [some (tapeO T2), some (.sh (scD s)), some (.sh (.int m)), some (.sh (.list ((s.map (·.1)).map .str))), some (.sh (.list (as.map atD))), v5, v6, none, some (.sh (.list [])), none, none, none])]
    · exact e3
    · simp only [pr_run, out, oR, sSeq, sIf, eP, ePk, ePkT, eFr, frzS, frz1, shE, VH.shS_sh, VH.shS_lst, VH.shS_dic, VH.shS_scr, VH.shS_none, pVar, pC, pBin, pChain, pUn, pMap, pB, pTru, pNN, pNNo, pAnd, pOr, pNot, pAndV, pOrV, pNotV, pIf, pNil, pCons, pAll, pPart, pPart0, pSl, pM1, pSeq, pSeq2, pCall_pr, pGet2, pGet3, isDic, Pr.bind, Pr.lift, eAnd, eOr, eNot, eB, bnd, eBin, eUn, eSub, eC, VH.ret, lift, eVar, eSh, eFz, sSet, sRet, sPut, sAsg, sPar, sPar3, sFz, tgN, tgT, tgSeq, eAll, eCons, eNil, eIf, sDo, sApp, sExt, sNext, oLst, oAdd, oIf, oList, oDic0, eMov, eSl, ePart, eCallU, aNil, aVal, aBor, takeA, putA, sRaise, List.getElem?_cons_zero, List.getElem?_cons_succ, List.set_cons_zero, List.set_cons_succ, Nat.reduceSub, Nat.reduceAdd, Nat.reduceLT, Nat.reduceLeDiff, Option.bind, Option.map, O.fzb, O.fzbK, fz, blD, VH.isN_none, VH.isN_int, VH.isN_str, VH.isN_bool, VH.isN_tup, VH.isN_lst, VH.isN_dic, vi_int, vi_bool, vi_str, vi_tuple, vi_list, vi_dict, truD, flR, flRA, List.map_cons, List.map_nil, List.replicate, List.cons_append, List.nil_append, List.length_cons, List.length_nil, if_true, if_false, ite_true, ite_false, Bool.false_eq_true, decide_true, decide_false, beq_self_eq_true, Bool.not_true, Bool.not_false, and_self, and_true, true_and, and_false, false_and, Bool.or_true, Bool.true_or, Bool.or_false, Bool.false_or, Bool.and_true, Bool.and_false, Bool.true_and, Bool.false_and, ne_eq, not_false_eq_true, not_true_eq_false, reduceCtorEq, VH.eq_str, VH.ne_str, VH.eq_int, VH.ne_int, VH.add_int, VH.le_int, VH.lt_int, VH.gt_int, VH.ge_int, VH.ixt0, VH.ixt1, VH.ixt2, VH.ixl0, VH.ixl1, VH.tup0, VH.tup1, VH.tup2, VH.tup3, VH.lst0, VH.lst1, VH.lst2, VH.lst3, VH.len_list, VH.len_tuple, VH.items_list, VH.items_tuple, eSeq]
  rw [seq_ok (e := [some (tapeO T2), some (.sh (scD s)), some (.sh (.int m)), some (.sh (.list ((s.map (·.1)).map .str))), some (.sh (.list (as.map atD))), v5, w6, none, some (.sh (.list (ns.map .str))), w9, w10, some (.lst [])])]
  rotate_left
  · simp only [pr_run, out, oR, sSeq, sIf, eP, ePk, ePkT, eFr, frzS, frz1, shE, VH.shS_sh, VH.shS_lst, VH.shS_dic, VH.shS_scr, VH.shS_none, pVar, pC, pBin, pChain, pUn, pMap, pB, pTru, pNN, pNNo, pAnd, pOr, pNot, pAndV, pOrV, pNotV, pIf, pNil, pCons, pAll, pPart, pPart0, pSl, pM1, pSeq, pSeq2, pCall_pr, pGet2, pGet3, isDic, Pr.bind, Pr.lift, eAnd, eOr, eNot, eB, bnd, eBin, eUn, eSub, eC, VH.ret, lift, eVar, eSh, eFz, sSet, sRet, sPut, sAsg, sPar, sPar3, sFz, tgN, tgT, tgSeq, eAll, eCons, eNil, eIf, sDo, sApp, sExt, sNext, oLst, oAdd, oIf, oList, oDic0, eMov, eSl, ePart, eCallU, aNil, aVal, aBor, takeA, putA, sRaise, List.getElem?_cons_zero, List.getElem?_cons_succ, List.set_cons_zero, List.set_cons_succ, Nat.reduceSub, Nat.reduceAdd, Nat.reduceLT, Nat.reduceLeDiff, Option.bind, Option.map, O.fzb, O.fzbK, fz, blD, VH.isN_none, VH.isN_int, VH.isN_str, VH.isN_bool, VH.isN_tup, VH.isN_lst, VH.isN_dic, vi_int, vi_bool, vi_str, vi_tuple, vi_list, vi_dict, truD, flR, flRA, List.map_cons, List.map_nil, List.replicate, List.cons_append, List.nil_append, List.length_cons, List.length_nil, if_true, if_false, ite_true, ite_false, Bool.false_eq_true, decide_true, decide_false, beq_self_eq_true, Bool.not_true, Bool.not_false, and_self, and_true, true_and, and_false, false_and, Bool.or_true, Bool.true_or, Bool.or_false, Bool.false_or, Bool.and_true, Bool.and_false, Bool.true_and, Bool.false_and, ne_eq, not_false_eq_true, not_true_eq_false, reduceCtorEq, VH.eq_str, VH.ne_str, VH.eq_int, VH.ne_int, VH.add_int, VH.le_int, VH.lt_int, VH.gt_int, VH.ge_int, VH.ixt0, VH.ixt1, VH.ixt2, VH.ixl0, VH.ixl1, VH.tup0, VH.tup1, VH.tup2, VH.tup3, VH.lst0, VH.lst1, VH.lst2, VH.lst3, VH.len_list, VH.len_tuple, VH.items_list, VH.items_tuple, Nat.zero_le]
  rw [seq_ok (e := [some (tapeO T4), some (.sh (scD s)), some (.sh (.int m)), some (.sh (.list ((s.map (·.1)).map .str))), some (.sh (.list (as.map atD))), w5, w6, none, some (.sh (.list (ns.map .str))), w9, w10, some (.lst (hd.map .str))])]
  rotate_left
  · rw [forI_eq (items := rngL 0 n) (env1 := [some (tapeO T3), some (.sh (scD s)), some (.sh (.int m)), some (.sh (.list ((s.map (·.1)).map .str))), some (.sh (.list (as.map atD))), v5, w6, none, some (.sh (.list (ns.map .str))), w9, w10, some (.lst [])])]
    · exact e5
    · exact eRng_eq (z := (n : Int)) (by simp only [pr_run, out, oR, sSeq, sIf, eP, ePk, ePkT, eFr, frzS, frz1, shE, VH.shS_sh, VH.shS_lst, VH.shS_dic, VH.shS_scr, VH.shS_none, pVar, pC, pBin, pChain, pUn, pMap, pB, pTru, pNN, pNNo, pAnd, pOr, pNot, pAndV, pOrV, pNotV, pIf, pNil, pCons, pAll, pPart, pPart0, pSl, pM1, pSeq, pSeq2, pCall_pr, pGet2, pGet3, isDic, Pr.bind, Pr.lift, eAnd, eOr, eNot, eB, bnd, eBin, eUn, eSub, eC, VH.ret, lift, eVar, eSh, eFz, sSet, sRet, sPut, sAsg, sPar, sPar3, sFz, tgN, tgT, tgSeq, eAll, eCons, eNil, eIf, sDo, sApp, sExt, sNext, oLst, oAdd, oIf, oList, oDic0, eMov, eSl, ePart, eCallU, aNil, aVal, aBor, takeA, putA, sRaise, List.getElem?_cons_zero, List.getElem?_cons_succ, List.set_cons_zero, List.set_cons_succ, Nat.reduceSub, Nat.reduceAdd, Nat.reduceLT, Nat.reduceLeDiff, Option.bind, Option.map, O.fzb, O.fzbK, fz, blD, VH.isN_none, VH.isN_int, VH.isN_str, VH.isN_bool, VH.isN_tup, VH.isN_lst, VH.isN_dic, vi_int, vi_bool, vi_str, vi_tuple, vi_list, vi_dict, truD, flR, flRA, List.map_cons, List.map_nil, List.replicate, List.cons_append, List.nil_append, List.length_cons, List.length_nil, if_true, if_false, ite_true, ite_false, Bool.false_eq_true, decide_true, decide_false, beq_self_eq_true, Bool.not_true, Bool.not_false, and_self, and_true, true_and, and_false, false_and, Bool.or_true, Bool.true_or, Bool.or_false, Bool.false_or, Bool.and_true, Bool.and_false, Bool.true_and, Bool.false_and, ne_eq, not_false_eq_true, not_true_eq_false, reduceCtorEq, VH.eq_str, VH.ne_str, VH.eq_int, VH.ne_int, VH.add_int, VH.le_int, VH.lt_int, VH.gt_int, VH.ge_int, VH.ixt0, VH.ixt1, VH.ixt2, VH.ixl0, VH.ixl1, VH.tup0, VH.tup1, VH.tup2, VH.tup3, VH.lst0, VH.lst1, VH.lst2, VH.lst3, VH.len_list, VH.len_tuple, VH.items_list, VH.items_tuple, e4]) (rng1_nat (k := n) (by omega))
  have f1 := fl_strs hd
  have f2 := fl_ats as
  simp only [pr_run, out, oR, sSeq, sIf, eP, ePk, ePkT, eFr, frzS, frz1, shE, VH.shS_sh, VH.shS_lst, VH.shS_dic, VH.shS_scr, VH.shS_none, pVar, pC, pBin, pChain, pUn, pMap, pB, pTru, pNN, pNNo, pAnd, pOr, pNot, pAndV, pOrV, pNotV, pIf, pNil, pCons, pAll, pPart, pPart0, pSl, pM1, pSeq, pSeq2, pCall_pr, pGet2, pGet3, isDic, Pr.bind, Pr.lift, eAnd, eOr, eNot, eB, bnd, eBin, eUn, eSub, eC, VH.ret, lift, eVar, eSh, eFz, sSet, sRet, sPut, sAsg, sPar, sPar3, sFz, tgN, tgT, tgSeq, eAll, eCons, eNil, eIf, sDo, sApp, sExt, sNext, oLst, oAdd, oIf, oList, oDic0, eMov, eSl, ePart, eCallU, aNil, aVal, aBor, takeA, putA, sRaise, List.getElem?_cons_zero, List.getElem?_cons_succ, List.set_cons_zero, List.set_cons_succ, Nat.reduceSub, Nat.reduceAdd, Nat.reduceLT, Nat.reduceLeDiff, Option.bind, Option.map, O.fzb, O.fzbK, fz, blD, VH.isN_none, VH.isN_int, VH.isN_str, VH.isN_bool, VH.isN_tup, VH.isN_lst, VH.isN_dic, vi_int, vi_bool, vi_str, vi_tuple, vi_list, vi_dict, truD, flR, flRA, List.map_cons, List.map_nil, List.replicate, List.cons_append, List.nil_append, List.length_cons, List.length_nil, if_true, if_false, ite_true, ite_false, Bool.false_eq_true, decide_true, decide_false, beq_self_eq_true, Bool.not_true, Bool.not_false, and_self, and_true, true_and, and_false, false_and, Bool.or_true, Bool.true_or, Bool.or_false, Bool.false_or, Bool.and_true, Bool.and_false, Bool.true_and, Bool.false_and, ne_eq, not_false_eq_true, not_true_eq_false, reduceCtorEq, VH.eq_str, VH.ne_str, VH.eq_int, VH.ne_int, VH.add_int, VH.le_int, VH.lt_int, VH.gt_int, VH.ge_int, VH.ixt0, VH.ixt1, VH.ixt2, VH.ixl0, VH.ixl1, VH.tup0, VH.tup1, VH.tup2, VH.tup3, VH.lst0, VH.lst1, VH.lst2, VH.lst3, VH.len_list, VH.len_tuple, VH.items_list, VH.items_tuple, tupOf_list, f1, f2, mask, qD]
end VC
set_option Elab.async false
set_option linter.all false
set_option maxRecDepth 100000
set_option maxHeartbeats 4000000
namespace VC
open PySem PySem.Spec PyProof.Rows L2 VH
theorem abs_int (i : Int) : ∃ j, absD [.int i] = some (.int j) := by
  unfold absD
  exact ⟨_, rfl⟩
theorem tape_comp (ns0 : List Int) (u1 u3 : Option O) : ∀ ns : List Int, ∃ js : List Int, compM (tgN 2) [2] (VH.ret true) (eP (pAll absD (pCons (pAll intD (pCons (pVar 2) (pNil))) (pNil)))) (ns.map .int) [some (.scr ns0), u1, none, u3] = .ok (js.map .int) [some (.scr ns0), u1, none, u3]
  | [] => ⟨[], rfl⟩
  | i :: ns => by
    obtain ⟨j, e1⟩ := abs_int i
    obtain ⟨js, e2⟩ := tape_comp ns0 u1 u3 ns
    refine ⟨j :: js, ?_⟩
    rw [List.map_cons, List.map_cons]
    unfold compM
    simp only [pr_run, out, oR, sSeq, sIf, eP, ePk, ePkT, eFr, frzS, frz1, shE, VH.shS_sh, VH.shS_lst, VH.shS_dic, VH.shS_scr, VH.shS_none, pVar, pC, pBin, pChain, pUn, pMap, pB, pTru, pNN, pNNo, pAnd, pOr, pNot, pAndV, pOrV, pNotV, pIf, pNil, pCons, pAll, pPart, pPart0, pSl, pM1, pSeq, pSeq2, pCall_pr, pGet2, pGet3, isDic, Pr.bind, Pr.lift, eAnd, eOr, eNot, eB, bnd, eBin, eUn, eSub, eC, VH.ret, lift, eVar, eSh, eFz, sSet, sRet, sPut, sAsg, sPar, sPar3, sFz, tgN, tgT, tgSeq, eAll, eCons, eNil, eIf, sDo, sApp, sExt, sNext, oLst, oAdd, oIf, oList, oDic0, eMov, eSl, ePart, eCallU, aNil, aVal, aBor, takeA, putA, sRaise, List.getElem?_cons_zero, List.getElem?_cons_succ, List.set_cons_zero, List.set_cons_succ, Nat.reduceSub, Nat.reduceAdd, Nat.reduceLT, Nat.reduceLeDiff, Option.bind, Option.map, O.fzb, O.fzbK, fz, blD, VH.isN_none, VH.isN_int, VH.isN_str, VH.isN_bool, VH.isN_tup, VH.isN_lst, VH.isN_dic, vi_int, vi_bool, vi_str, vi_tuple, vi_list, vi_dict, truD, flR, flRA, List.map_cons, List.map_nil, List.replicate, List.cons_append, List.nil_append, List.length_cons, List.length_nil, if_true, if_false, ite_true, ite_false, Bool.false_eq_true, decide_true, decide_false, beq_self_eq_true, Bool.not_true, Bool.not_false, and_self, and_true, true_and, and_false, false_and, Bool.or_true, Bool.true_or, Bool.or_false, Bool.false_or, Bool.and_true, Bool.and_false, Bool.true_and, Bool.false_and, ne_eq, not_false_eq_true, not_true_eq_false, reduceCtorEq, VH.eq_str, VH.ne_str, VH.eq_int, VH.ne_int, VH.add_int, VH.le_int, VH.lt_int, VH.gt_int, VH.ge_int, VH.ixt0, VH.ixt1, VH.ixt2, VH.ixl0, VH.ixl1, VH.tup0, VH.tup1, VH.tup2, VH.tup3, VH.lst0, VH.lst1, VH.lst2, VH.lst3, VH.len_list, VH.len_tuple, VH.items_list, VH.items_tuple, int_int, e1, dropE, e2]
theorem tape_loop (u0 : Option O) (js : List Int) : ∀ (ks : List Int) (z : Int) (v2 : Option O), ∃ (z' : Int) (w2 : Option O), loopS (tgN 2) L1__law_tape (ks.map .int) [u0, some (.sh (.list (js.map .int))), v2, some (.sh (.int z))] = .ok .nx [u0, some (.sh (.list (js.map .int))), w2, some (.sh (.int z'))]
  | [], z, v2 => ⟨z, v2, rfl⟩
  | k :: ks, z, v2 => by
    obtain ⟨z', w2, e⟩ := tape_loop u0 js ks ((z * 31 + k) % 2147483647) (some (.sh (.int k)))
    refine ⟨z', w2, ?_⟩
    have e1 : mulD (.int z) (.int 31) = some (.int (z * 31)) := mul_int (.inr (by decide))
    have e2 : modD (.int (z * 31 + k)) (.int 2147483647) = some (.int ((z * 31 + k) % 2147483647)) := mod_int (by decide)
    have hb : L1__law_tape [u0, some (.sh (.list (js.map .int))), some (.sh (.int k)), some (.sh (.int z))] = .ok .nx [u0, some (.sh (.list (js.map .int))), some (.sh (.int k)), some (.sh (.int ((z * 31 + k) % 2147483647)))] := by
      simp only [pr_run, out, oR, sSeq, sIf, eP, ePk, ePkT, eFr, frzS, frz1, shE, VH.shS_sh, VH.shS_lst, VH.shS_dic, VH.shS_scr, VH.shS_none, pVar, pC, pBin, pChain, pUn, pMap, pB, pTru, pNN, pNNo, pAnd, pOr, pNot, pAndV, pOrV, pNotV, pIf, pNil, pCons, pAll, pPart, pPart0, pSl, pM1, pSeq, pSeq2, pCall_pr, pGet2, pGet3, isDic, Pr.bind, Pr.lift, eAnd, eOr, eNot, eB, bnd, eBin, eUn, eSub, eC, VH.ret, lift, eVar, eSh, eFz, sSet, sRet, sPut, sAsg, sPar, sPar3, sFz, tgN, tgT, tgSeq, eAll, eCons, eNil, eIf, sDo, sApp, sExt, sNext, oLst, oAdd, oIf, oList, oDic0, eMov, eSl, ePart, eCallU, aNil, aVal, aBor, takeA, putA, sRaise, List.getElem?_cons_zero, List.getElem?_cons_succ, List.set_cons_zero, List.set_cons_succ, Nat.reduceSub, Nat.reduceAdd, Nat.reduceLT, Nat.reduceLeDiff, Option.bind, Option.map, O.fzb, O.fzbK, fz, blD, VH.isN_none, VH.isN_int, VH.isN_str, VH.isN_bool, VH.isN_tup, VH.isN_lst, VH.isN_dic, vi_int, vi_bool, vi_str, vi_tuple, vi_list, vi_dict, truD, flR, flRA, List.map_cons, List.map_nil, List.replicate, List.cons_append, List.nil_append, List.length_cons, List.length_nil, if_true, if_false, ite_true, ite_false, Bool.false_eq_true, decide_true, decide_false, beq_self_eq_true, Bool.not_true, Bool.not_false, and_self, and_true, true_and, and_false, false_and, Bool.or_true, Bool.true_or, Bool.or_false, Bool.false_or, Bool.and_true, Bool.and_false, Bool.true_and, Bool.false_and, ne_eq, not_false_eq_true, not_true_eq_false, reduceCtorEq, VH.eq_str, VH.ne_str, VH.eq_int, VH.ne_int, VH.add_int, VH.le_int, VH.lt_int, VH.gt_int, VH.ge_int, VH.ixt0, VH.ixt1, VH.ixt2, VH.ixl0, VH.ixl1, VH.tup0, VH.tup1, VH.tup2, VH.tup3, VH.lst0, VH.lst1, VH.lst2, VH.lst3, VH.len_list, VH.len_tuple, VH.items_list, VH.items_tuple, L1__law_tape, e1, e2, int_int]
    rw [List.map_cons]
    unfold loopS
    rw [show tgN 2 (PyData.int k) [u0, some (.sh (.list (js.map .int))), v2, some (.sh (.int z))] = some [u0, some (.sh (.list (js.map .int))), some (.sh (.int k)), some (.sh (.int z))] from rfl]
    dsimp only
    rw [hb]
    exact e
theorem tape_ok (ns : List Int) : ∃ T : Tape, r__law_tape [.scr ns] = .ok (tapeO T) [some (.scr ns)] := by
  unfold r__law_tape fnRun b__law_tape
  simp only [List.map_cons, List.map_nil, List.length_cons, List.length_nil, Nat.reduceSub, Nat.reduceAdd, List.replicate, List.cons_append, List.nil_append]
  obtain ⟨js, e1⟩ := tape_comp ns none none ns
  obtain ⟨z, w2, e2⟩ := tape_loop (some (.scr ns)) js js 7 none
  refine ⟨⟨js, 0, 0, z, 0⟩, ?_⟩
  rw [seq_ok (e := [some (.scr ns), some (.sh (.list (js.map .int))), none, none])]
  rotate_left
  · simp only [pr_run, out, oR, sSeq, sIf, eP, ePk, ePkT, eFr, frzS, frz1, shE, VH.shS_sh, VH.shS_lst, VH.shS_dic, VH.shS_scr, VH.shS_none, pVar, pC, pBin, pChain, pUn, pMap, pB, pTru, pNN, pNNo, pAnd, pOr, pNot, pAndV, pOrV, pNotV, pIf, pNil, pCons, pAll, pPart, pPart0, pSl, pM1, pSeq, pSeq2, pCall_pr, pGet2, pGet3, isDic, Pr.bind, Pr.lift, eAnd, eOr, eNot, eB, bnd, eBin, eUn, eSub, eC, VH.ret, lift, eVar, eSh, eFz, sSet, sRet, sPut, sAsg, sPar, sPar3, sFz, tgN, tgT, tgSeq, eAll, eCons, eNil, eIf, sDo, sApp, sExt, sNext, oLst, oAdd, oIf, oList, oDic0, eMov, eSl, ePart, eCallU, aNil, aVal, aBor, takeA, putA, sRaise, List.getElem?_cons_zero, List.getElem?_cons_succ, List.set_cons_zero, List.set_cons_succ, Nat.reduceSub, Nat.reduceAdd, Nat.reduceLT, Nat.reduceLeDiff, Option.bind, Option.map, O.fzb, O.fzbK, fz, blD, VH.isN_none, VH.isN_int, VH.isN_str, VH.isN_bool, VH.isN_tup, VH.isN_lst, VH.isN_dic, vi_int, vi_bool, vi_str, vi_tuple, vi_list, vi_dict, truD, flR, flRA, List.map_cons, List.map_nil, List.replicate, List.cons_append, List.nil_append, List.length_cons, List.length_nil, if_true, if_false, ite_true, ite_false, Bool.false_eq_true, decide_true, decide_false, beq_self_eq_true, Bool.not_true, Bool.not_false, and_self, and_true, true_and, and_false, false_and, Bool.or_true, Bool.true_or, Bool.or_false, Bool.false_or, Bool.and_true, Bool.and_false, Bool.true_and, Bool.false_and, ne_eq, not_false_eq_true, not_true_eq_false, reduceCtorEq, VH.eq_str, VH.ne_str, VH.eq_int, VH.ne_int, VH.add_int, VH.le_int, VH.lt_int, VH.gt_int, VH.ge_int, VH.ixt0, VH.ixt1, VH.ixt2, VH.ixl0, VH.ixl1, VH.tup0, VH.tup1, VH.tup2, VH.tup3, VH.lst0, VH.lst1, VH.lst2, VH.lst3, VH.len_list, VH.len_tuple, VH.items_list, VH.items_tuple, oComp, eScr, dropE, e1]
  rw [seq_ok (e := [some (.scr ns), some (.sh (.list (js.map .int))), none, some (.sh (.int 7))])]
  rotate_left
  · simp only [pr_run, out, oR, sSeq, sIf, eP, ePk, ePkT, eFr, frzS, frz1, shE, VH.shS_sh, VH.shS_lst, VH.shS_dic, VH.shS_scr, VH.shS_none, pVar, pC, pBin, pChain, pUn, pMap, pB, pTru, pNN, pNNo, pAnd, pOr, pNot, pAndV, pOrV, pNotV, pIf, pNil, pCons, pAll, pPart, pPart0, pSl, pM1, pSeq, pSeq2, pCall_pr, pGet2, pGet3, isDic, Pr.bind, Pr.lift, eAnd, eOr, eNot, eB, bnd, eBin, eUn, eSub, eC, VH.ret, lift, eVar, eSh, eFz, sSet, sRet, sPut, sAsg, sPar, sPar3, sFz, tgN, tgT, tgSeq, eAll, eCons, eNil, eIf, sDo, sApp, sExt, sNext, oLst, oAdd, oIf, oList, oDic0, eMov, eSl, ePart, eCallU, aNil, aVal, aBor, takeA, putA, sRaise, List.getElem?_cons_zero, List.getElem?_cons_succ, List.set_cons_zero, List.set_cons_succ, Nat.reduceSub, Nat.reduceAdd, Nat.reduceLT, Nat.reduceLeDiff, Option.bind, Option.map, O.fzb, O.fzbK, fz, blD, VH.isN_none, VH.isN_int, VH.isN_str, VH.isN_bool, VH.isN_tup, VH.isN_lst, VH.isN_dic, vi_int, vi_bool, vi_str, vi_tuple, vi_list, vi_dict, truD, flR, flRA, List.map_cons, List.map_nil, List.replicate, List.cons_append, List.nil_append, List.length_cons, List.length_nil, if_true, if_false, ite_true, ite_false, Bool.false_eq_true, decide_true, decide_false, beq_self_eq_true, Bool.not_true, Bool.not_false, and_self, and_true, true_and, and_false, false_and, Bool.or_true, Bool.true_or, Bool.or_false, Bool.false_or, Bool.and_true, Bool.and_false, Bool.true_and, Bool.false_and, ne_eq, not_false_eq_true, not_true_eq_false, reduceCtorEq, VH.eq_str, VH.ne_str, VH.eq_int, VH.ne_int, VH.add_int, VH.le_int, VH.lt_int, VH.gt_int, VH.ge_int, VH.ixt0, VH.ixt1, VH.ixt2, VH.ixl0, VH.ixl1, VH.tup0, VH.tup1, VH.tup2, VH.tup3, VH.lst0, VH.lst1, VH.lst2, VH.lst3, VH.len_list, VH.len_tuple, VH.items_list, VH.items_tuple]
  rw [seq_ok (e := [some (.scr ns), some (.sh (.list (js.map .int))), w2, some (.sh (.int z))])]
  rotate_left
  · rw [for_eq (items := js.map .int)]
    · exact e2
    · simp only [pr_run, out, oR, sSeq, sIf, eP, ePk, ePkT, eFr, frzS, frz1, shE, VH.shS_sh, VH.shS_lst, VH.shS_dic, VH.shS_scr, VH.shS_none, pVar, pC, pBin, pChain, pUn, pMap, pB, pTru, pNN, pNNo, pAnd, pOr, pNot, pAndV, pOrV, pNotV, pIf, pNil, pCons, pAll, pPart, pPart0, pSl, pM1, pSeq, pSeq2, pCall_pr, pGet2, pGet3, isDic, Pr.bind, Pr.lift, eAnd, eOr, eNot, eB, bnd, eBin, eUn, eSub, eC, VH.ret, lift, eVar, eSh, eFz, sSet, sRet, sPut, sAsg, sPar, sPar3, sFz, tgN, tgT, tgSeq, eAll, eCons, eNil, eIf, sDo, sApp, sExt, sNext, oLst, oAdd, oIf, oList, oDic0, eMov, eSl, ePart, eCallU, aNil, aVal, aBor, takeA, putA, sRaise, List.getElem?_cons_zero, List.getElem?_cons_succ, List.set_cons_zero, List.set_cons_succ, Nat.reduceSub, Nat.reduceAdd, Nat.reduceLT, Nat.reduceLeDiff, Option.bind, Option.map, O.fzb, O.fzbK, fz, blD, VH.isN_none, VH.isN_int, VH.isN_str, VH.isN_bool, VH.isN_tup, VH.isN_lst, VH.isN_dic, vi_int, vi_bool, vi_str, vi_tuple, vi_list, vi_dict, truD, flR, flRA, List.map_cons, List.map_nil, List.replicate, List.cons_append, List.nil_append, List.length_cons, List.length_nil, if_true, if_false, ite_true, ite_false, Bool.false_eq_true, decide_true, decide_false, beq_self_eq_true, Bool.not_true, Bool.not_false, and_self, and_true, true_and, and_false, false_and, Bool.or_true, Bool.true_or, Bool.or_false, Bool.false_or, Bool.and_true, Bool.and_false, Bool.true_and, Bool.false_and, ne_eq, not_false_eq_true, not_true_eq_false, reduceCtorEq, VH.eq_str, VH.ne_str, VH.eq_int, VH.ne_int, VH.add_int, VH.le_int, VH.lt_int, VH.gt_int, VH.ge_int, VH.ixt0, VH.ixt1, VH.ixt2, VH.ixl0, VH.ixl1, VH.tup0, VH.tup1, VH.tup2, VH.tup3, VH.lst0, VH.lst1, VH.lst2, VH.lst3, VH.len_list, VH.len_tuple, VH.items_list, VH.items_tuple]
  have hk : keysD [(.str (Str.ofString "cells"), .list (js.map .int)), (.str (Str.ofString "at"), .int 0), (.str (Str.ofString "left"), .int 0), (.str (Str.ofString "seed"), .int z), (.str (Str.ofString "salt"), .int 0)] =
    some [(kc, .list (js.map .int)), (ka, .int 0), (kl, .int 0), (ks, .int z), (kx, .int 0)] := rfl
  have hm : mergeD [] [(kc, .list (js.map .int)), (ka, .int 0), (kl, .int 0), (ks, .int z), (kx, .int 0)] = [(kc, .list (js.map .int)), (ka, .int 0), (kl, .int 0), (ks, .int z), (kx, .int 0)] := by rfl
  simp only [pr_run, out, oR, sSeq, sIf, eP, ePk, ePkT, eFr, frzS, frz1, shE, VH.shS_sh, VH.shS_lst, VH.shS_dic, VH.shS_scr, VH.shS_none, pVar, pC, pBin, pChain, pUn, pMap, pB, pTru, pNN, pNNo, pAnd, pOr, pNot, pAndV, pOrV, pNotV, pIf, pNil, pCons, pAll, pPart, pPart0, pSl, pM1, pSeq, pSeq2, pCall_pr, pGet2, pGet3, isDic, Pr.bind, Pr.lift, eAnd, eOr, eNot, eB, bnd, eBin, eUn, eSub, eC, VH.ret, lift, eVar, eSh, eFz, sSet, sRet, sPut, sAsg, sPar, sPar3, sFz, tgN, tgT, tgSeq, eAll, eCons, eNil, eIf, sDo, sApp, sExt, sNext, oLst, oAdd, oIf, oList, oDic0, eMov, eSl, ePart, eCallU, aNil, aVal, aBor, takeA, putA, sRaise, List.getElem?_cons_zero, List.getElem?_cons_succ, List.set_cons_zero, List.set_cons_succ, Nat.reduceSub, Nat.reduceAdd, Nat.reduceLT, Nat.reduceLeDiff, Option.bind, Option.map, O.fzb, O.fzbK, fz, blD, VH.isN_none, VH.isN_int, VH.isN_str, VH.isN_bool, VH.isN_tup, VH.isN_lst, VH.isN_dic, vi_int, vi_bool, vi_str, vi_tuple, vi_list, vi_dict, truD, flR, flRA, List.map_cons, List.map_nil, List.replicate, List.cons_append, List.nil_append, List.length_cons, List.length_nil, if_true, if_false, ite_true, ite_false, Bool.false_eq_true, decide_true, decide_false, beq_self_eq_true, Bool.not_true, Bool.not_false, and_self, and_true, true_and, and_false, false_and, Bool.or_true, Bool.true_or, Bool.or_false, Bool.false_or, Bool.and_true, Bool.and_false, Bool.true_and, Bool.false_and, ne_eq, not_false_eq_true, not_true_eq_false, reduceCtorEq, VH.eq_str, VH.ne_str, VH.eq_int, VH.ne_int, VH.add_int, VH.le_int, VH.lt_int, VH.gt_int, VH.ge_int, VH.ixt0, VH.ixt1, VH.ixt2, VH.ixl0, VH.ixl1, VH.tup0, VH.tup1, VH.tup2, VH.tup3, VH.lst0, VH.lst1, VH.lst2, VH.lst3, VH.len_list, VH.len_tuple, VH.items_list, VH.items_tuple, oDic, ePairs, hk, hm, shK, mask, tapeO, tapeK, Int.natCast_zero]
end VC
set_option Elab.async false
set_option linter.all false
set_option maxRecDepth 100000
set_option maxHeartbeats 4000000
namespace K67
open PySem PySem.Spec PyProof.Rows L2 VH VC
def topS (i : Nat) : Stmt := PySem.Challenge.pw_versionhouse_k67_plain_questions_refused.main.body.getD i (.Pass ⟨0, 0, 0, 0⟩)
abbrev bs_rows_for : List Bool := [false, false, false]
abbrev bs_all_valuations : List Bool := [false, false]
abbrev bs_plain_answer : List Bool := [false, false, false]
abbrev bs__law_code : List Bool := [false, false]
abbrev bs__law_empty : List Bool := [false]
abbrev bs__law_with : List Bool := [false, false, false]
abbrev bs__law_faulty : List Bool := [true, false, false, false]
abbrev bs_law : List Bool := [false]
structure Tx (P : Program) (w : World) (K : PySem.W.Frag) (mg : Str → Option Value) (base : Heap) : Prop where
  n_abs : mg "abs" = none
  n_all : mg "all" = none
  n_bool : mg "bool" = none
  n_int : mg "int" = none
  n_isinstance : mg "isinstance" = none
  n_len : mg "len" = none
  n_list : mg "list" = none
  n_range : mg "range" = none
  n_sorted : mg "sorted" = none
  n_str : mg "str" = none
  n_tuple : mg "tuple" = none
  n_zip : mg "zip" = none
  c_CHARACTERS : ∃ t, mg "CHARACTERS" = some (.str c_CHARACTERS t)
  c_GREATEST : ∃ t, mg "GREATEST" = some (.int (999999999) t)
  c_LEAST : ∃ t, mg "LEAST" = some (.int (-999999999) t)
  c_LENGTH : ∃ t, mg "LENGTH" = some (.int (30) t)
  c_LETTERS : ∃ t, mg "LETTERS" = some (.str c_LETTERS t)
  c_MOST_ATOMS : ∃ t, mg "MOST_ATOMS" = some (.int (6) t)
  c_MOST_HEAD : ∃ t, mg "MOST_HEAD" = some (.int (4) t)
  x_QuestionError : Xcl P w K mg base "QuestionError" "code"
section
variable {P : Program} {w : World} {K : PySem.W.Frag} {mg : Str → Option Value} {base : Heap}
/-! ### is_integer -/
abbrev s_is_integer : Stmt := topS 8
abbrev N_is_integer : List Str := ["thing"]
abbrev p_is_integer : List Str := ["thing"]
theorem sc_is_integer : FnScope N_is_integer p_is_integer (defScope s_is_integer) := ⟨rfl, rfl, rfl, by decide +kernel, rfl, by decide +kernel, by decide +kernel⟩
theorem d_is_integer {k : Nat} {fa : Addr} {cdv : Value} {A : Around} {outer : List Env} {s : Shared} {H : Hp} {vs : List V} {E : XK} (T : Tx P w K mg base) (hr : Room k (A.deeper (envOfC "is_integer" (defScope s_is_integer) s.heap.objs.size fa cdv))) :
    PSs (cxOf (L2.CX P w) P w K mg base N_is_integer "is_integer" (defScope s_is_integer) fa cdv A outer s H E) (defBody s_is_integer) (tS ⟨K, mg⟩ (fun c d _ H => E c d H) ⟨bs_is_integer, vs⟩ (b_is_integer)) :=
  psd_one (psd_ret (po_sh (pd_P (pp_and (pp_D (pd_isi vis_int (by rfl) T.n_isinstance (by decide +kernel) (by rfl) T.n_int (by decide +kernel) (pd_P (pp_var 0))) dn_isi) (pp_one (pp_not (pp_D (pd_isi vis_bool (by rfl) T.n_isinstance (by decide +kernel) (by rfl) T.n_bool (by decide +kernel) (pd_P (pp_var 0))) dn_isi)))))))
theorem g_is_integer {k : Nat} {fa : Addr} {fd : FuncData} {run : List O → Rs O} (T : Tx P w K mg base) (F : Fun K "is_integer" "is_integer" s_is_integer fa fd) (m : mg "is_integer" = some (.ref fa))
    (hrun : ∀ os, os.length = 1 → run os ≠ .bad → fnRun bs_is_integer 1 (b_is_integer) os = run os) : FnG P w K mg base (k + 1) "is_integer" bs_is_integer run :=
  ⟨fa, fd, p_is_integer, fnD F sc_is_integer rfl rfl hrun (fun cdv A outer s H vs E hr => d_is_integer T hr), m, F.kp, F.binds fun _ _ _ _ _ _ us hl => match us, hl with | [_], _ => rfl⟩
/-! ### is_plain_text -/
abbrev s_is_plain_text : Stmt := topS 9
abbrev N_is_plain_text : List Str := ["thing", "char"]
abbrev p_is_plain_text : List Str := ["thing"]
theorem sc_is_plain_text : FnScope N_is_plain_text p_is_plain_text (defScope s_is_plain_text) := ⟨rfl, rfl, rfl, by decide +kernel, rfl, by decide +kernel, by decide +kernel⟩
theorem d_is_plain_text {k : Nat} {fa : Addr} {cdv : Value} {A : Around} {outer : List Env} {s : Shared} {H : Hp} {vs : List V} {E : XK} (T : Tx P w K mg base) (hr : Room k (A.deeper (envOfC "is_plain_text" (defScope s_is_plain_text) s.heap.objs.size fa cdv))) :
    PSs (cxOf (L2.CX P w) P w K mg base N_is_plain_text "is_plain_text" (defScope s_is_plain_text) fa cdv A outer s H E) (defBody s_is_plain_text) (tS ⟨K, mg⟩ (fun c d _ H => E c d H) ⟨bs_is_plain_text, vs⟩ (b_is_plain_text)) :=
  psd_cons (psd_if (ptd_P (ptp_not (ptp_val (pp_D (pd_isi vis_str (by rfl) T.n_isinstance (by decide +kernel) (by rfl) T.n_str (by decide +kernel) (pd_P (pp_var 0))) dn_isi)))) (psd_one (psd_ret (po_sh (pd_P (pp_bl))))) (psd_nil)) (psd_cons (psd_for (passes_of rfl) rfl (pid_P (pp_I (pid_seq (pd_P (pp_var 0))) dn_seq)) (pgd_name (i := 1) (ix := [1]) sc_is_plain_text.nd (by first | exact Or.inl rfl | exact Or.inr rfl) (fun q => nomatch q) (by decide)) (psd_one (psd_if (ptd_P (ptp_cmp (od_notIn (hu_of hr)) (pp_var 1) (pp_gstr (by rfl) T.c_CHARACTERS) (by rfl))) (psd_one (psd_ret (po_sh (pd_P (pp_bl))))) (psd_nil)))) (psd_one (psd_ret (po_sh (pd_P (pp_bl))))))
theorem g_is_plain_text {k : Nat} {fa : Addr} {fd : FuncData} {run : List O → Rs O} (T : Tx P w K mg base) (F : Fun K "is_plain_text" "is_plain_text" s_is_plain_text fa fd) (m : mg "is_plain_text" = some (.ref fa))
    (hrun : ∀ os, os.length = 1 → run os ≠ .bad → fnRun bs_is_plain_text 2 (b_is_plain_text) os = run os) : FnG P w K mg base (k + 1) "is_plain_text" bs_is_plain_text run :=
  ⟨fa, fd, p_is_plain_text, fnD F sc_is_plain_text rfl rfl hrun (fun cdv A outer s H vs E hr => d_is_plain_text T hr), m, F.kp, F.binds fun _ _ _ _ _ _ us hl => match us, hl with | [_], _ => rfl⟩
/-! ### is_value -/
abbrev s_is_value : Stmt := topS 10
abbrev N_is_value : List Str := ["thing"]
abbrev p_is_value : List Str := ["thing"]
theorem sc_is_value : FnScope N_is_value p_is_value (defScope s_is_value) := ⟨rfl, rfl, rfl, by decide +kernel, rfl, by decide +kernel, by decide +kernel⟩
theorem d_is_value {k : Nat} {k_is_integer : Nat} {r_is_integer : List O → Rs O} {k_is_plain_text : Nat} {r_is_plain_text : List O → Rs O} {fa : Addr} {cdv : Value} {A : Around} {outer : List Env} {s : Shared} {H : Hp} {vs : List V} {E : XK} (T : Tx P w K mg base) (G_is_integer : FnG P w K mg base k_is_integer "is_integer" bs_is_integer r_is_integer) (h_is_integer : k_is_integer ≤ k) (G_is_plain_text : FnG P w K mg base k_is_plain_text "is_plain_text" bs_is_plain_text r_is_plain_text) (h_is_plain_text : k_is_plain_text ≤ k) (hr : Room k (A.deeper (envOfC "is_value" (defScope s_is_value) s.heap.objs.size fa cdv))) :
    PSs (cxOf (L2.CX P w) P w K mg base N_is_value "is_value" (defScope s_is_value) fa cdv A outer s H E) (defBody s_is_value) (tS ⟨K, mg⟩ (fun c d _ H => E c d H) ⟨bs_is_value, vs⟩ (b_is_value r_is_integer r_is_plain_text)) :=
  psd_cons (psd_if (ptd_P (ptp_isN (pp_var 0))) (psd_one (psd_ret (po_sh (pd_P (pp_bl))))) (psd_nil)) (psd_cons (psd_if (ptd_P (ptp_val (pp_D (pd_fz (po_call G_is_integer (hr.mono h_is_integer) (by rfl) (takes_of rfl rfl rfl rfl) (paa_val (pd_P (pp_var 0)) (paa_nil)) (aLen_val (aLen_nil)))) (dn_call (dna_val (dna_nil)))))) (psd_one (psd_ret (po_sh (pd_P (pp_chain od_le od_le (pp_gint (by rfl) T.c_LEAST) (pp_var 0) (pp_gint (by rfl) T.c_GREATEST)))))) (psd_nil)) (psd_one (psd_ret (po_sh (pd_P (pp_and (pp_D (pd_fz (po_call G_is_plain_text (hr.mono h_is_plain_text) (by rfl) (takes_of rfl rfl rfl rfl) (paa_val (pd_P (pp_var 0)) (paa_nil)) (aLen_val (aLen_nil)))) (dn_call (dna_val (dna_nil)))) (pp_one (pp_cmp od_le (pp_D (pd_callB cd_len (by rfl) T.n_len (by decide +kernel) (pad_P (pap_cons (pp_var 0) (pap_nil)))) dn_all) (pp_gint (by rfl) T.c_LENGTH) (nomark _)))))))))
theorem g_is_value {k : Nat} {k_is_integer : Nat} {r_is_integer : List O → Rs O} {k_is_plain_text : Nat} {r_is_plain_text : List O → Rs O} {fa : Addr} {fd : FuncData} {run : List O → Rs O} (T : Tx P w K mg base) (G_is_integer : FnG P w K mg base k_is_integer "is_integer" bs_is_integer r_is_integer) (h_is_integer : k_is_integer ≤ k) (G_is_plain_text : FnG P w K mg base k_is_plain_text "is_plain_text" bs_is_plain_text r_is_plain_text) (h_is_plain_text : k_is_plain_text ≤ k) (F : Fun K "is_value" "is_value" s_is_value fa fd) (m : mg "is_value" = some (.ref fa))
    (hrun : ∀ os, os.length = 1 → run os ≠ .bad → fnRun bs_is_value 1 (b_is_value r_is_integer r_is_plain_text) os = run os) : FnG P w K mg base (k + 1) "is_value" bs_is_value run :=
  ⟨fa, fd, p_is_value, fnD F sc_is_value rfl rfl hrun (fun cdv A outer s H vs E hr => d_is_value T G_is_integer h_is_integer G_is_plain_text h_is_plain_text hr), m, F.kp, F.binds fun _ _ _ _ _ _ us hl => match us, hl with | [_], _ => rfl⟩
/-! ### kind_of -/
abbrev s_kind_of : Stmt := topS 11
abbrev N_kind_of : List Str := ["value"]
abbrev p_kind_of : List Str := ["value"]
theorem sc_kind_of : FnScope N_kind_of p_kind_of (defScope s_kind_of) := ⟨rfl, rfl, rfl, by decide +kernel, rfl, by decide +kernel, by decide +kernel⟩
theorem d_kind_of {k : Nat} {fa : Addr} {cdv : Value} {A : Around} {outer : List Env} {s : Shared} {H : Hp} {vs : List V} {E : XK} (T : Tx P w K mg base) (hr : Room k (A.deeper (envOfC "kind_of" (defScope s_kind_of) s.heap.objs.size fa cdv))) :
    PSs (cxOf (L2.CX P w) P w K mg base N_kind_of "kind_of" (defScope s_kind_of) fa cdv A outer s H E) (defBody s_kind_of) (tS ⟨K, mg⟩ (fun c d _ H => E c d H) ⟨bs_kind_of, vs⟩ (b_kind_of)) :=
  psd_cons (psd_if (ptd_P (ptp_isN (pp_var 0))) (psd_one (psd_ret (po_sh (pd_P (pp_str))))) (psd_nil)) (psd_cons (psd_if (ptd_P (ptp_val (pp_D (pd_isi vis_str (by rfl) T.n_isinstance (by decide +kernel) (by rfl) T.n_str (by decide +kernel) (pd_P (pp_var 0))) dn_isi))) (psd_one (psd_ret (po_sh (pd_P (pp_str))))) (psd_nil)) (psd_one (psd_ret (po_sh (pd_P (pp_str))))))
theorem g_kind_of {k : Nat} {fa : Addr} {fd : FuncData} {run : List O → Rs O} (T : Tx P w K mg base) (F : Fun K "kind_of" "kind_of" s_kind_of fa fd) (m : mg "kind_of" = some (.ref fa))
    (hrun : ∀ os, os.length = 1 → run os ≠ .bad → fnRun bs_kind_of 1 (b_kind_of) os = run os) : FnG P w K mg base (k + 1) "kind_of" bs_kind_of run :=
  ⟨fa, fd, p_kind_of, fnD F sc_kind_of rfl rfl hrun (fun cdv A outer s H vs E hr => d_kind_of T hr), m, F.kp, F.binds fun _ _ _ _ _ _ us hl => match us, hl with | [_], _ => rfl⟩
/-! ### fits_column -/
abbrev s_fits_column : Stmt := topS 12
abbrev N_fits_column : List Str := ["value", "column"]
abbrev p_fits_column : List Str := ["value", "column"]
theorem sc_fits_column : FnScope N_fits_column p_fits_column (defScope s_fits_column) := ⟨rfl, rfl, rfl, by decide +kernel, rfl, by decide +kernel, by decide +kernel⟩
theorem d_fits_column {k : Nat} {k_is_value : Nat} {r_is_value : List O → Rs O} {k_kind_of : Nat} {r_kind_of : List O → Rs O} {fa : Addr} {cdv : Value} {A : Around} {outer : List Env} {s : Shared} {H : Hp} {vs : List V} {E : XK} (T : Tx P w K mg base) (G_is_value : FnG P w K mg base k_is_value "is_value" bs_is_value r_is_value) (h_is_value : k_is_value ≤ k) (G_kind_of : FnG P w K mg base k_kind_of "kind_of" bs_kind_of r_kind_of) (h_kind_of : k_kind_of ≤ k) (hr : Room k (A.deeper (envOfC "fits_column" (defScope s_fits_column) s.heap.objs.size fa cdv))) :
    PSs (cxOf (L2.CX P w) P w K mg base N_fits_column "fits_column" (defScope s_fits_column) fa cdv A outer s H E) (defBody s_fits_column) (tS ⟨K, mg⟩ (fun c d _ H => E c d H) ⟨bs_fits_column, vs⟩ (b_fits_column r_is_value r_kind_of)) :=
  psd_cons (psd_if (ptd_P (ptp_isN (pp_var 0))) (psd_one (psd_ret (po_sh (pd_P (pp_ix (hu_of hr) (pp_var 1) (pp_int) (fun _ _ => rfl)))))) (psd_nil)) (psd_one (psd_ret (po_sh (pd_P (pp_and (pp_D (pd_fz (po_call G_is_value (hr.mono h_is_value) (by rfl) (takes_of rfl rfl rfl rfl) (paa_val (pd_P (pp_var 0)) (paa_nil)) (aLen_val (aLen_nil)))) (dn_call (dna_val (dna_nil)))) (pp_one (pp_cmp (od_eq hr.units) (pp_D (pd_fz (po_call G_kind_of (hr.mono h_kind_of) (by rfl) (takes_of rfl rfl rfl rfl) (paa_val (pd_P (pp_var 0)) (paa_nil)) (aLen_val (aLen_nil)))) (dn_call (dna_val (dna_nil)))) (pp_ix (hu_of hr) (pp_var 1) (pp_int) (fun _ _ => rfl)) (nomark _))))))))
theorem g_fits_column {k : Nat} {k_is_value : Nat} {r_is_value : List O → Rs O} {k_kind_of : Nat} {r_kind_of : List O → Rs O} {fa : Addr} {fd : FuncData} {run : List O → Rs O} (T : Tx P w K mg base) (G_is_value : FnG P w K mg base k_is_value "is_value" bs_is_value r_is_value) (h_is_value : k_is_value ≤ k) (G_kind_of : FnG P w K mg base k_kind_of "kind_of" bs_kind_of r_kind_of) (h_kind_of : k_kind_of ≤ k) (F : Fun K "fits_column" "fits_column" s_fits_column fa fd) (m : mg "fits_column" = some (.ref fa))
    (hrun : ∀ os, os.length = 2 → run os ≠ .bad → fnRun bs_fits_column 2 (b_fits_column r_is_value r_kind_of) os = run os) : FnG P w K mg base (k + 1) "fits_column" bs_fits_column run :=
  ⟨fa, fd, p_fits_column, fnD F sc_fits_column rfl rfl hrun (fun cdv A outer s H vs E hr => d_fits_column T G_is_value h_is_value G_kind_of h_kind_of hr), m, F.kp, F.binds fun _ _ _ _ _ _ us hl => match us, hl with | [_, _], _ => rfl⟩
/-! ### is_variable_name -/
abbrev s_is_variable_name : Stmt := topS 17
abbrev N_is_variable_name : List Str := ["text", "char"]
abbrev p_is_variable_name : List Str := ["text"]
theorem sc_is_variable_name : FnScope N_is_variable_name p_is_variable_name (defScope s_is_variable_name) := ⟨rfl, rfl, rfl, by decide +kernel, rfl, by decide +kernel, by decide +kernel⟩
theorem d_is_variable_name {k : Nat} {fa : Addr} {cdv : Value} {A : Around} {outer : List Env} {s : Shared} {H : Hp} {vs : List V} {E : XK} (T : Tx P w K mg base) (hr : Room k (A.deeper (envOfC "is_variable_name" (defScope s_is_variable_name) s.heap.objs.size fa cdv))) :
    PSs (cxOf (L2.CX P w) P w K mg base N_is_variable_name "is_variable_name" (defScope s_is_variable_name) fa cdv A outer s H E) (defBody s_is_variable_name) (tS ⟨K, mg⟩ (fun c d _ H => E c d H) ⟨bs_is_variable_name, vs⟩ (b_is_variable_name)) :=
  psd_one (psd_ret (po_sh (pd_P (pp_and (pp_cmp (od_ne hr.units) (pp_var 0) (pp_str) (nomark _)) (pp_one (pp_D (pd_callB (cd_all rfl) (by rfl) T.n_all (by decide +kernel) (pad_P (pap_cons (pp_D (pd_fz (po_comp (own := [("char", 1)]) rfl sc_is_variable_name.nd (pid_P (pp_I (pid_seq (pd_P (pp_var 0))) dn_seq)) (blkOk_by (own := [("char", 1)]) (N := N_is_variable_name) (sc := defScope s_is_variable_name) (by decide +kernel)) (fun _ _ _ _ _ => pgd_name (i := 1) (ix := [1]) sc_is_variable_name.nd (by first | exact Or.inl rfl | exact Or.inr rfl) (fun q => nomatch q) (by decide)) (fun _ _ _ _ _ => ptsd_nilP) (fun _ _ _ _ _ => pd_P (pp_cmp (od_in (hu_of hr)) (pp_var 1) (pp_gstr (by rfl) T.c_LETTERS) (by rfl))))) (dn_comp (tgs_N (by decide)))) (pap_nil)))) dn_all))))))
theorem g_is_variable_name {k : Nat} {fa : Addr} {fd : FuncData} {run : List O → Rs O} (T : Tx P w K mg base) (F : Fun K "is_variable_name" "is_variable_name" s_is_variable_name fa fd) (m : mg "is_variable_name" = some (.ref fa))
    (hrun : ∀ os, os.length = 1 → run os ≠ .bad → fnRun bs_is_variable_name 2 (b_is_variable_name) os = run os) : FnG P w K mg base (k + 1) "is_variable_name" bs_is_variable_name run :=
  ⟨fa, fd, p_is_variable_name, fnD F sc_is_variable_name rfl rfl hrun (fun cdv A outer s H vs E hr => d_is_variable_name T hr), m, F.kp, F.binds fun _ _ _ _ _ _ us hl => match us, hl with | [_], _ => rfl⟩
/-! ### term_fits -/
abbrev s_term_fits : Stmt := topS 18
abbrev N_term_fits : List Str := ["term", "column"]
abbrev p_term_fits : List Str := ["term", "column"]
theorem sc_term_fits : FnScope N_term_fits p_term_fits (defScope s_term_fits) := ⟨rfl, rfl, rfl, by decide +kernel, rfl, by decide +kernel, by decide +kernel⟩
theorem d_term_fits {k : Nat} {k_is_variable_name : Nat} {r_is_variable_name : List O → Rs O} {k_fits_column : Nat} {r_fits_column : List O → Rs O} {fa : Addr} {cdv : Value} {A : Around} {outer : List Env} {s : Shared} {H : Hp} {vs : List V} {E : XK} (T : Tx P w K mg base) (G_is_variable_name : FnG P w K mg base k_is_variable_name "is_variable_name" bs_is_variable_name r_is_variable_name) (h_is_variable_name : k_is_variable_name ≤ k) (G_fits_column : FnG P w K mg base k_fits_column "fits_column" bs_fits_column r_fits_column) (h_fits_column : k_fits_column ≤ k) (hr : Room k (A.deeper (envOfC "term_fits" (defScope s_term_fits) s.heap.objs.size fa cdv))) :
    PSs (cxOf (L2.CX P w) P w K mg base N_term_fits "term_fits" (defScope s_term_fits) fa cdv A outer s H E) (defBody s_term_fits) (tS ⟨K, mg⟩ (fun c d _ H => E c d H) ⟨bs_term_fits, vs⟩ (b_term_fits r_is_variable_name r_fits_column)) :=
  psd_cons (psd_if (ptd_P (ptp_isN (pp_var 0))) (psd_one (psd_ret (po_sh (pd_P (pp_ix (hu_of hr) (pp_var 1) (pp_int) (fun _ _ => rfl)))))) (psd_nil)) (psd_cons (psd_if (ptd_P (ptp_cmp (od_eq hr.units) (pp_ix (hu_of hr) (pp_var 0) (pp_int) (fun _ _ => rfl)) (pp_str) (nomark _))) (psd_one (psd_ret (po_sh (pd_P (pp_D (pd_fz (po_call G_is_variable_name (hr.mono h_is_variable_name) (by rfl) (takes_of rfl rfl rfl rfl) (paa_val (pd_P (pp_ix (hu_of hr) (pp_var 0) (pp_int) (fun _ _ => rfl))) (paa_nil)) (aLen_val (aLen_nil)))) (dn_call (dna_val (dna_nil)))))))) (psd_nil)) (psd_one (psd_ret (po_sh (pd_P (pp_and (pp_notN (pp_ix (hu_of hr) (pp_var 0) (pp_int) (fun _ _ => rfl))) (pp_one (pp_D (pd_fz (po_call G_fits_column (hr.mono h_fits_column) (by rfl) (takes_of rfl rfl rfl rfl) (paa_val (pd_P (pp_ix (hu_of hr) (pp_var 0) (pp_int) (fun _ _ => rfl))) (paa_val (pd_P (pp_var 1)) (paa_nil))) (aLen_val (aLen_val (aLen_nil))))) (dn_call (dna_val (dna_val (dna_nil))))))))))))
theorem g_term_fits {k : Nat} {k_is_variable_name : Nat} {r_is_variable_name : List O → Rs O} {k_fits_column : Nat} {r_fits_column : List O → Rs O} {fa : Addr} {fd : FuncData} {run : List O → Rs O} (T : Tx P w K mg base) (G_is_variable_name : FnG P w K mg base k_is_variable_name "is_variable_name" bs_is_variable_name r_is_variable_name) (h_is_variable_name : k_is_variable_name ≤ k) (G_fits_column : FnG P w K mg base k_fits_column "fits_column" bs_fits_column r_fits_column) (h_fits_column : k_fits_column ≤ k) (F : Fun K "term_fits" "term_fits" s_term_fits fa fd) (m : mg "term_fits" = some (.ref fa))
    (hrun : ∀ os, os.length = 2 → run os ≠ .bad → fnRun bs_term_fits 2 (b_term_fits r_is_variable_name r_fits_column) os = run os) : FnG P w K mg base (k + 1) "term_fits" bs_term_fits run :=
  ⟨fa, fd, p_term_fits, fnD F sc_term_fits rfl rfl hrun (fun cdv A outer s H vs E hr => d_term_fits T G_is_variable_name h_is_variable_name G_fits_column h_fits_column hr), m, F.kp, F.binds fun _ _ _ _ _ _ us hl => match us, hl with | [_, _], _ => rfl⟩
/-! ### terms_fit -/
abbrev s_terms_fit : Stmt := topS 19
abbrev N_terms_fit : List Str := ["terms", "columns", "term", "column"]
abbrev p_terms_fit : List Str := ["terms", "columns"]
theorem sc_terms_fit : FnScope N_terms_fit p_terms_fit (defScope s_terms_fit) := ⟨rfl, rfl, rfl, by decide +kernel, rfl, by decide +kernel, by decide +kernel⟩
theorem d_terms_fit {k : Nat} {k_term_fits : Nat} {r_term_fits : List O → Rs O} {fa : Addr} {cdv : Value} {A : Around} {outer : List Env} {s : Shared} {H : Hp} {vs : List V} {E : XK} (T : Tx P w K mg base) (G_term_fits : FnG P w K mg base k_term_fits "term_fits" bs_term_fits r_term_fits) (h_term_fits : k_term_fits ≤ k) (hr : Room k (A.deeper (envOfC "terms_fit" (defScope s_terms_fit) s.heap.objs.size fa cdv))) :
    PSs (cxOf (L2.CX P w) P w K mg base N_terms_fit "terms_fit" (defScope s_terms_fit) fa cdv A outer s H E) (defBody s_terms_fit) (tS ⟨K, mg⟩ (fun c d _ H => E c d H) ⟨bs_terms_fit, vs⟩ (b_terms_fit r_term_fits)) :=
  psd_cons (psd_if (ptd_P (ptp_cmp (od_ne hr.units) (pp_D (pd_callB cd_len (by rfl) T.n_len (by decide +kernel) (pad_P (pap_cons (pp_var 0) (pap_nil)))) dn_all) (pp_D (pd_callB cd_len (by rfl) T.n_len (by decide +kernel) (pad_P (pap_cons (pp_var 1) (pap_nil)))) dn_all) (nomark _))) (psd_one (psd_ret (po_sh (pd_P (pp_bl))))) (psd_nil)) (psd_one (psd_ret (po_sh (pd_P (pp_D (pd_callB (cd_all rfl) (by rfl) T.n_all (by decide +kernel) (pad_P (pap_cons (pp_D (pd_fz (po_comp (own := [("term", 2), ("column", 3)]) rfl sc_terms_fit.nd (pid_P (pp_I (pid_zipB (by rfl) T.n_zip (pd_P (pp_var 0)) (pd_P (pp_var 1))) dn_zipB)) (blkOk_by (own := [("term", 2), ("column", 3)]) (N := N_terms_fit) (sc := defScope s_terms_fit) (by decide +kernel)) (fun _ _ _ _ _ => pgd_tup rfl (pgsd_cons (pgd_name (i := 2) (ix := [2, 3]) sc_terms_fit.nd (by first | exact Or.inl rfl | exact Or.inr rfl) (fun q => nomatch q) (by decide)) (pgsd_cons (pgd_name (i := 3) (ix := [2, 3]) sc_terms_fit.nd (by first | exact Or.inl rfl | exact Or.inr rfl) (fun q => nomatch q) (by decide)) (pgsd_nil)))) (fun _ _ _ _ _ => ptsd_nilP) (fun _ _ _ _ _ => pd_P (pp_D (pd_fz (po_call G_term_fits (hr.mono h_term_fits) (by rfl) takes0 (paa_val (pd_P (pp_var 2)) (paa_val (pd_P (pp_var 3)) (paa_nil))) (aLen_val (aLen_val (aLen_nil))))) (dn_call (dna_val (dna_val (dna_nil)))))))) (dn_comp (tgs_T (by intro t ht; simp only [List.mem_cons, List.not_mem_nil, or_false] at ht; rcases ht with rfl | rfl; exact (tgs_N (by decide)); exact (tgs_N (by decide)))))) (pap_nil)))) dn_all)))))
theorem g_terms_fit {k : Nat} {k_term_fits : Nat} {r_term_fits : List O → Rs O} {fa : Addr} {fd : FuncData} {run : List O → Rs O} (T : Tx P w K mg base) (G_term_fits : FnG P w K mg base k_term_fits "term_fits" bs_term_fits r_term_fits) (h_term_fits : k_term_fits ≤ k) (F : Fun K "terms_fit" "terms_fit" s_terms_fit fa fd) (m : mg "terms_fit" = some (.ref fa))
    (hrun : ∀ os, os.length = 2 → run os ≠ .bad → fnRun bs_terms_fit 4 (b_terms_fit r_term_fits) os = run os) : FnG P w K mg base (k + 1) "terms_fit" bs_terms_fit run :=
  ⟨fa, fd, p_terms_fit, fnD F sc_terms_fit rfl rfl hrun (fun cdv A outer s H vs E hr => d_terms_fit T G_term_fits h_term_fits hr), m, F.kp, F.binds fun _ _ _ _ _ _ us hl => match us, hl with | [_, _], _ => rfl⟩
/-! ### kinds_of -/
abbrev s_kinds_of : Stmt := topS 20
abbrev N_kinds_of : List Str := ["schema", "atoms", "found", "table", "terms", "term", "column"]
abbrev p_kinds_of : List Str := ["schema", "atoms"]
theorem sc_kinds_of : FnScope N_kinds_of p_kinds_of (defScope s_kinds_of) := ⟨rfl, rfl, rfl, by decide +kernel, rfl, by decide +kernel, by decide +kernel⟩
theorem d_kinds_of {k : Nat} {fa : Addr} {cdv : Value} {A : Around} {outer : List Env} {s : Shared} {H : Hp} {vs : List V} {E : XK} (T : Tx P w K mg base) (hr : Room k (A.deeper (envOfC "kinds_of" (defScope s_kinds_of) s.heap.objs.size fa cdv))) :
    PSs (cxOf (L2.CX P w) P w K mg base N_kinds_of "kinds_of" (defScope s_kinds_of) fa cdv A outer s H E) (defBody s_kinds_of) (tS ⟨K, mg⟩ (fun c d _ H => E c d H) ⟨bs_kinds_of, vs⟩ (b_kinds_of)) :=
  psd_cons (psd_set (i := 2) sc_kinds_of.nd (by first | exact Or.inl rfl | exact Or.inr rfl) (po_dic0) (fun q => nomatch q)) (psd_cons (psd_for (passes_of rfl) rfl (pid_P (pp_I (pid_seq (pd_P (pp_var 1))) dn_seq)) (pgd_tup rfl (pgsd_cons (pgd_name (i := 3) (ix := [3, 4]) sc_kinds_of.nd (by first | exact Or.inl rfl | exact Or.inr rfl) (fun q => nomatch q) (by decide)) (pgsd_cons (pgd_name (i := 4) (ix := [3, 4]) sc_kinds_of.nd (by first | exact Or.inl rfl | exact Or.inr rfl) (fun q => nomatch q) (by decide)) (pgsd_nil)))) (psd_one (psd_for (passes_of rfl) rfl (pid_P (pp_I (pid_zipB (by rfl) T.n_zip (pd_P (pp_var 4)) (pd_P (pp_ix (hu_of hr) (pp_ix (hu_of hr) (pp_var 0) (pp_var 3) (fun _ _ => rfl)) (pp_str) (fun _ _ => rfl)))) dn_zipB)) (pgd_tup rfl (pgsd_cons (pgd_name (i := 5) (ix := [5, 6]) sc_kinds_of.nd (by first | exact Or.inl rfl | exact Or.inr rfl) (fun q => nomatch q) (by decide)) (pgsd_cons (pgd_name (i := 6) (ix := [5, 6]) sc_kinds_of.nd (by first | exact Or.inl rfl | exact Or.inr rfl) (fun q => nomatch q) (by decide)) (pgsd_nil)))) (psd_one (psd_if (ptd_P (PW.pt (pwp_and (ptp_notN (pp_var 5)) (pwp_and1 (ptp_cmp (od_eq hr.units) (pp_ix (hu_of hr) (pp_var 5) (pp_int) (fun _ _ => rfl)) (pp_str) (nomark _)))))) (psd_cons (psd_if (ptd_Pk [2] (ptp_cmp (od_ne hr.units) (pp_D (pd_get3 (hu_of hr) (pd_P (pp_var 2)) (pd_P (pp_ix (hu_of hr) (pp_var 5) (pp_int) (fun _ _ => rfl))) (pd_P (pp_ix (hu_of hr) (pp_var 6) (pp_int) (fun _ _ => rfl))) ⟨rfl, rfl, rfl, rfl⟩) dn_get3) (pp_ix (hu_of hr) (pp_var 6) (pp_int) (fun _ _ => rfl)) (nomark _))) (psd_one (psd_ret (po_sh (pd_P (pp_non))))) (psd_nil)) (psd_one (psd_put (hu_of hr) 2 (pd_P (pp_ix (hu_of hr) (pp_var 5) (pp_int) (fun _ _ => rfl))) (pd_P (pp_ix (hu_of hr) (pp_var 6) (pp_int) (fun _ _ => rfl)))))) (psd_nil)))))) (psd_one (psd_ret (po_sh (pd_var 2)))))
theorem g_kinds_of {k : Nat} {fa : Addr} {fd : FuncData} {run : List O → Rs O} (T : Tx P w K mg base) (F : Fun K "kinds_of" "kinds_of" s_kinds_of fa fd) (m : mg "kinds_of" = some (.ref fa))
    (hrun : ∀ os, os.length = 2 → run os ≠ .bad → fnRun bs_kinds_of 7 (b_kinds_of) os = run os) : FnG P w K mg base (k + 1) "kinds_of" bs_kinds_of run :=
  ⟨fa, fd, p_kinds_of, fnD F sc_kinds_of rfl rfl hrun (fun cdv A outer s H vs E hr => d_kinds_of T hr), m, F.kp, F.binds fun _ _ _ _ _ _ us hl => match us, hl with | [_, _], _ => rfl⟩
/-! ### check_question -/
abbrev s_check_question : Stmt := topS 21
abbrev N_check_question : List Str := ["schema", "question", "head", "atoms", "table", "_", "terms", "kinds", "name"]
abbrev p_check_question : List Str := ["schema", "question"]
theorem sc_check_question : FnScope N_check_question p_check_question (defScope s_check_question) := ⟨rfl, rfl, rfl, by decide +kernel, rfl, by decide +kernel, by decide +kernel⟩
theorem d_check_question {k : Nat} {k_terms_fit : Nat} {r_terms_fit : List O → Rs O} {k_kinds_of : Nat} {r_kinds_of : List O → Rs O} {fa : Addr} {cdv : Value} {A : Around} {outer : List Env} {s : Shared} {H : Hp} {vs : List V} {E : XK} (T : Tx P w K mg base) (h_x : 2 ≤ k) (G_terms_fit : FnG P w K mg base k_terms_fit "terms_fit" bs_terms_fit r_terms_fit) (h_terms_fit : k_terms_fit ≤ k) (G_kinds_of : FnG P w K mg base k_kinds_of "kinds_of" bs_kinds_of r_kinds_of) (h_kinds_of : k_kinds_of ≤ k) (hr : Room k (A.deeper (envOfC "check_question" (defScope s_check_question) s.heap.objs.size fa cdv))) :
    PSs (cxOf (L2.CX P w) P w K mg base N_check_question "check_question" (defScope s_check_question) fa cdv A outer s H E) (defBody s_check_question) (tS ⟨K, mg⟩ (fun c d _ H => E c d H) ⟨bs_check_question, vs⟩ (b_check_question r_terms_fit r_kinds_of)) :=
  psd_cons (psd_asg (pd_P (pp_var 1)) (pgd_tup rfl (pgsd_cons (pgd_name (i := 2) (ix := [2, 3]) sc_check_question.nd (by first | exact Or.inl rfl | exact Or.inr rfl) (fun q => nomatch q) (by decide)) (pgsd_cons (pgd_name (i := 3) (ix := [2, 3]) sc_check_question.nd (by first | exact Or.inl rfl | exact Or.inr rfl) (fun q => nomatch q) (by decide)) (pgsd_nil))))) (psd_cons (psd_if (ptd_P (PW.pt (pwp_or (ptp_not (ptp_chain od_le od_le (pp_int) (pp_D (pd_callB cd_len (by rfl) T.n_len (by decide +kernel) (pad_P (pap_cons (pp_var 3) (pap_nil)))) dn_all) (pp_gint (by rfl) T.c_MOST_ATOMS))) (pwp_or1 (ptp_cmp od_gt (pp_D (pd_callB cd_len (by rfl) T.n_len (by decide +kernel) (pad_P (pap_cons (pp_var 2) (pap_nil)))) dn_all) (pp_gint (by rfl) T.c_MOST_HEAD) (nomark _)))))) (psd_one (psd_raise rfl (takes_of rfl rfl rfl rfl) T.x_QuestionError (hr.mono h_x) (by rfl) (pd_P (pp_str)))) (psd_nil)) (psd_cons (psd_for (passes_of rfl) rfl (pid_P (pp_I (pid_seq (pd_P (pp_var 3))) dn_seq)) (pgd_tup rfl (pgsd_cons (pgd_name (i := 4) (ix := [4, 5]) sc_check_question.nd (by first | exact Or.inl rfl | exact Or.inr rfl) (fun q => nomatch q) (by decide)) (pgsd_cons (pgd_name (i := 5) (ix := [4, 5]) sc_check_question.nd (by first | exact Or.inl rfl | exact Or.inr rfl) (fun q => nomatch q) (by decide)) (pgsd_nil)))) (psd_one (psd_if (ptd_P (ptp_cmp (od_notIn (hu_of hr)) (pp_var 4) (pp_var 0) (by rfl))) (psd_one (psd_raise rfl (takes_of rfl rfl rfl rfl) T.x_QuestionError (hr.mono h_x) (by rfl) (pd_P (pp_str)))) (psd_nil)))) (psd_cons (psd_for (passes_of rfl) rfl (pid_P (pp_I (pid_seq (pd_P (pp_var 3))) dn_seq)) (pgd_tup rfl (pgsd_cons (pgd_name (i := 4) (ix := [4, 6]) sc_check_question.nd (by first | exact Or.inl rfl | exact Or.inr rfl) (fun q => nomatch q) (by decide)) (pgsd_cons (pgd_name (i := 6) (ix := [4, 6]) sc_check_question.nd (by first | exact Or.inl rfl | exact Or.inr rfl) (fun q => nomatch q) (by decide)) (pgsd_nil)))) (psd_one (psd_if (ptd_P (ptp_not (ptp_val (pp_D (pd_fz (po_call G_terms_fit (hr.mono h_terms_fit) (by rfl) (takes_of rfl rfl rfl rfl) (paa_val (pd_P (pp_var 6)) (paa_val (pd_P (pp_ix (hu_of hr) (pp_ix (hu_of hr) (pp_var 0) (pp_var 4) (fun _ _ => rfl)) (pp_str) (fun _ _ => rfl))) (paa_nil))) (aLen_val (aLen_val (aLen_nil))))) (dn_call (dna_val (dna_val (dna_nil)))))))) (psd_one (psd_raise rfl (takes_of rfl rfl rfl rfl) T.x_QuestionError (hr.mono h_x) (by rfl) (pd_P (pp_str)))) (psd_nil)))) (psd_cons (psd_set (i := 7) sc_check_question.nd (by first | exact Or.inl rfl | exact Or.inr rfl) (po_sh (pd_P (pp_D (pd_fz (po_call G_kinds_of (hr.mono h_kinds_of) (by rfl) (takes_of rfl rfl rfl rfl) (paa_val (pd_P (pp_var 0)) (paa_val (pd_P (pp_var 3)) (paa_nil))) (aLen_val (aLen_val (aLen_nil))))) (dn_call (dna_val (dna_val (dna_nil))))))) (fun q => nomatch q)) (psd_cons (psd_if (ptd_P (ptp_isN (pp_var 7))) (psd_one (psd_raise rfl (takes_of rfl rfl rfl rfl) T.x_QuestionError (hr.mono h_x) (by rfl) (pd_P (pp_str)))) (psd_nil)) (psd_one (psd_if (ptd_P (ptp_not (ptp_val (pp_D (pd_callB (cd_all rfl) (by rfl) T.n_all (by decide +kernel) (pad_P (pap_cons (pp_D (pd_fz (po_comp (own := [("name", 8)]) rfl sc_check_question.nd (pid_P (pp_I (pid_seq (pd_P (pp_var 2))) dn_seq)) (blkOk_by (own := [("name", 8)]) (N := N_check_question) (sc := defScope s_check_question) (by decide +kernel)) (fun _ _ _ _ _ => pgd_name (i := 8) (ix := [8]) sc_check_question.nd (by first | exact Or.inl rfl | exact Or.inr rfl) (fun q => nomatch q) (by decide)) (fun _ _ _ _ _ => ptsd_nilP) (fun _ _ _ _ _ => pd_P (pp_cmp (od_in (hu_of hr)) (pp_var 8) (pp_var 7) (by rfl))))) (dn_comp (tgs_N (by decide)))) (pap_nil)))) dn_all)))) (psd_one (psd_raise rfl (takes_of rfl rfl rfl rfl) T.x_QuestionError (hr.mono h_x) (by rfl) (pd_P (pp_str)))) (psd_nil))))))))
theorem g_check_question {k : Nat} {k_terms_fit : Nat} {r_terms_fit : List O → Rs O} {k_kinds_of : Nat} {r_kinds_of : List O → Rs O} {fa : Addr} {fd : FuncData} {run : List O → Rs O} (T : Tx P w K mg base) (h_x : 2 ≤ k) (G_terms_fit : FnG P w K mg base k_terms_fit "terms_fit" bs_terms_fit r_terms_fit) (h_terms_fit : k_terms_fit ≤ k) (G_kinds_of : FnG P w K mg base k_kinds_of "kinds_of" bs_kinds_of r_kinds_of) (h_kinds_of : k_kinds_of ≤ k) (F : Fun K "check_question" "check_question" s_check_question fa fd) (m : mg "check_question" = some (.ref fa))
    (hrun : ∀ os, os.length = 2 → run os ≠ .bad → fnRun bs_check_question 9 (b_check_question r_terms_fit r_kinds_of) os = run os) : FnG P w K mg base (k + 1) "check_question" bs_check_question run :=
  ⟨fa, fd, p_check_question, fnD F sc_check_question rfl rfl hrun (fun cdv A outer s H vs E hr => d_check_question T h_x G_terms_fit h_terms_fit G_kinds_of h_kinds_of hr), m, F.kp, F.binds fun _ _ _ _ _ _ us hl => match us, hl with | [_, _], _ => rfl⟩
/-! ### rows_for -/
abbrev s_rows_for : Stmt := topS 23
abbrev N_rows_for : List Str := ["state", "atom", "valuation", "table", "terms", "key", "other"]
abbrev p_rows_for : List Str := ["state", "atom", "valuation"]
theorem sc_rows_for : FnScope N_rows_for p_rows_for (defScope s_rows_for) := ⟨rfl, rfl, rfl, by decide +kernel, rfl, by decide +kernel, by decide +kernel⟩
def b_rows_for : En → Rs Fl := sSeq (sAsg (eP (pVar 1)) (tgT 2 [tgN 3, tgN 4])) (sSeq (sSet 5 (eSh (eP (pBin idxD (pBin idxD (pVar 4) (pC (.int 0))) (pC (.int 1)))))) (sSeq (sIf (eP (pB (pBin eqD (pBin idxD (pBin idxD (pVar 4) (pC (.int 0))) (pC (.int 0))) (pC (.str (Str.ofString "var")))))) (sSeq (sIf (eP (pB (pBin ninOp (pVar 5) (pVar 2)))) (sRet (eSh (eP (pComp (pSeq keysO (pBin idxD (pVar 0) (pVar 3))) (tgN 6) [6] (fun _ => .ok true) (pBin addD (pAll tupD (pCons (pVar 6) (pNil))) (pBin idxD (pBin idxD (pVar 0) (pVar 3)) (pVar 6))))))) (sNext)) (sSet 5 (eSh (eP (pBin idxD (pVar 2) (pVar 5)))))) (sNext)) (sRet (eSh (eP (pIf (pB (pBin inOp (pVar 5) (pBin idxD (pVar 0) (pVar 3)))) (pAll lstD (pCons (pBin addD (pAll tupD (pCons (pVar 5) (pNil))) (pBin idxD (pBin idxD (pVar 0) (pVar 3)) (pVar 5))) (pNil))) (pAll lstD (pNil))))))))
theorem d_rows_for {k : Nat} {fa : Addr} {cdv : Value} {A : Around} {outer : List Env} {s : Shared} {H : Hp} {vs : List V} {E : XK} (T : Tx P w K mg base) (hr : Room k (A.deeper (envOfC "rows_for" (defScope s_rows_for) s.heap.objs.size fa cdv))) :
    PSs (cxOf (L2.CX P w) P w K mg base N_rows_for "rows_for" (defScope s_rows_for) fa cdv A outer s H E) (defBody s_rows_for) (tS ⟨K, mg⟩ (fun c d _ H => E c d H) ⟨bs_rows_for, vs⟩ (b_rows_for)) :=
  psd_cons (psd_asg (pd_P (pp_var 1)) (pgd_tup rfl (pgsd_cons (pgd_name (i := 3) (ix := [3, 4]) sc_rows_for.nd (by first | exact Or.inl rfl | exact Or.inr rfl) (fun q => nomatch q) (by decide)) (pgsd_cons (pgd_name (i := 4) (ix := [3, 4]) sc_rows_for.nd (by first | exact Or.inl rfl | exact Or.inr rfl) (fun q => nomatch q) (by decide)) (pgsd_nil))))) (psd_cons (psd_set (i := 5) sc_rows_for.nd (by first | exact Or.inl rfl | exact Or.inr rfl) (po_sh (pd_P (pp_ix (hu_of hr) (pp_ix (hu_of hr) (pp_var 4) (pp_int) (fun _ _ => rfl)) (pp_int) (fun _ _ => rfl)))) (fun q => nomatch q)) (psd_cons (psd_if (ptd_P (ptp_cmp (od_eq hr.units) (pp_ix (hu_of hr) (pp_ix (hu_of hr) (pp_var 4) (pp_int) (fun _ _ => rfl)) (pp_int) (fun _ _ => rfl)) (pp_str) (nomark _))) (psd_cons (psd_if (ptd_P (ptp_cmp (od_notIn (hu_of hr)) (pp_var 5) (pp_var 2) (by rfl))) (psd_one (psd_ret (po_sh (pd_P (pp_D (pd_fz (po_compKP (own := [("other", 6)]) rfl sc_rows_for.nd (pp_ix (hu_of hr) (pp_var 0) (pp_var 3) (fun _ _ => rfl)) (blkOk_by (own := [("other", 6)]) (N := N_rows_for) (sc := defScope s_rows_for) (by decide +kernel)) (fun _ _ _ _ _ => pgd_name (i := 6) (ix := [6]) sc_rows_for.nd (by first | exact Or.inl rfl | exact Or.inr rfl) (fun q => nomatch q) (by decide)) (fun _ _ _ _ _ => ptsd_nilP) (fun _ _ _ _ _ => pd_P (pp_bin od_add (pp_tup (pap_cons (pp_var 6) (pap_nil))) (pp_ix (hu_of hr) (pp_ix (hu_of hr) (pp_var 0) (pp_var 3) (fun _ _ => rfl)) (pp_var 6) (fun _ _ => rfl)))))) (dn_comp (tgs_N (by decide)))))))) (psd_nil)) (psd_one (psd_set (i := 5) sc_rows_for.nd (by first | exact Or.inl rfl | exact Or.inr rfl) (po_sh (pd_P (pp_ix (hu_of hr) (pp_var 2) (pp_var 5) (fun _ _ => rfl)))) (fun q => nomatch q)))) (psd_nil)) (psd_one (psd_ret (po_sh (pd_P (pp_if (ptp_cmp (od_in (hu_of hr)) (pp_var 5) (pp_ix (hu_of hr) (pp_var 0) (pp_var 3) (fun _ _ => rfl)) (by rfl)) (pp_lst (pap_cons (pp_bin od_add (pp_tup (pap_cons (pp_var 5) (pap_nil))) (pp_ix (hu_of hr) (pp_ix (hu_of hr) (pp_var 0) (pp_var 3) (fun _ _ => rfl)) (pp_var 5) (fun _ _ => rfl))) (pap_nil))) (pp_lst (pap_nil)))))))))
theorem g_rows_for {k : Nat} {fa : Addr} {fd : FuncData} {run : List O → Rs O} (T : Tx P w K mg base) (F : Fun K "rows_for" "rows_for" s_rows_for fa fd) (m : mg "rows_for" = some (.ref fa))
    (hrun : ∀ os, os.length = 3 → run os ≠ .bad → fnRun bs_rows_for 7 (b_rows_for) os = run os) : FnG P w K mg base (k + 1) "rows_for" bs_rows_for run :=
  ⟨fa, fd, p_rows_for, fnD F sc_rows_for rfl rfl hrun (fun cdv A outer s H vs E hr => d_rows_for T hr), m, F.kp, F.binds fun _ _ _ _ _ _ us hl => match us, hl with | [_, _, _], _ => rfl⟩
/-! ### all_valuations -/
abbrev s_all_valuations : Stmt := topS 24
abbrev N_all_valuations : List Str := ["state", "atoms", "found", "atom", "longer", "valuation", "row", "new"]
abbrev p_all_valuations : List Str := ["state", "atoms"]
theorem sc_all_valuations : FnScope N_all_valuations p_all_valuations (defScope s_all_valuations) := ⟨rfl, rfl, rfl, by decide +kernel, rfl, by decide +kernel, by decide +kernel⟩
def L1_all_valuations (r_rows_for : List O → Rs O) : En → Rs Fl := sFor (eP (pSeq itemsD (pCall r_rows_for (pCons (pVar 0) (pCons (pVar 3) (pCons (pVar 5) (pNil))))))) (tgN 6) (sNever)
def L2_all_valuations (r_rows_for : List O → Rs O) : En → Rs Fl := sSeq (sSet 4 (oDic0)) (sSeq (sFor (eP (pSeq itemsD (pVar 2))) (tgN 5) (L1_all_valuations r_rows_for)) (sSet 2 (eSh (eFr [4] (eP (pUn valsD (pVar 4)))))))
def b_all_valuations (r_rows_for : List O → Rs O) : En → Rs Fl := sSeq (sSet 2 (eSh (eP (pAll lstD (pCons (pC (.dict [])) (pNil)))))) (sSeq (sFor (eP (pSeq itemsD (pVar 1))) (tgN 3) (L2_all_valuations r_rows_for)) (sRet (eSh (eP (pVar 2)))))
theorem d_all_valuations {k : Nat} {k_rows_for : Nat} {r_rows_for : List O → Rs O} {fa : Addr} {cdv : Value} {A : Around} {outer : List Env} {s : Shared} {H : Hp} {vs : List V} {E : XK} (T : Tx P w K mg base) (G_rows_for : FnG P w K mg base k_rows_for "rows_for" bs_rows_for r_rows_for) (h_rows_for : k_rows_for ≤ k) (hr : Room k (A.deeper (envOfC "all_valuations" (defScope s_all_valuations) s.heap.objs.size fa cdv))) :
    PSs (cxOf (L2.CX P w) P w K mg base N_all_valuations "all_valuations" (defScope s_all_valuations) fa cdv A outer s H E) (defBody s_all_valuations) (tS ⟨K, mg⟩ (fun c d _ H => E c d H) ⟨bs_all_valuations, vs⟩ (b_all_valuations r_rows_for)) :=
  psd_cons (psd_set (i := 2) sc_all_valuations.nd (by first | exact Or.inl rfl | exact Or.inr rfl) (po_sh (pd_P (pp_lst (pap_cons (pp_D (pd_fz po_dic0) (fun _ _ => rfl)) (pap_nil))))) (fun q => nomatch q)) (psd_cons (psd_for (passes_of rfl) rfl (pid_P (pp_I (pid_seq (pd_P (pp_var 1))) dn_seq)) (pgd_name (i := 3) (ix := [3]) sc_all_valuations.nd (by first | exact Or.inl rfl | exact Or.inr rfl) (fun q => nomatch q) (by decide)) (psd_cons (psd_set (i := 4) sc_all_valuations.nd (by first | exact Or.inl rfl | exact Or.inr rfl) (po_dic0) (fun q => nomatch q)) (psd_cons (psd_for (passes_of rfl) rfl (pid_P (pp_I (pid_seq (pd_P (pp_var 2))) dn_seq)) (pgd_name (i := 5) (ix := [5]) sc_all_valuations.nd (by first | exact Or.inl rfl | exact Or.inr rfl) (fun q => nomatch q) (by decide)) (psd_one (psd_for (passes_of rfl) rfl (pid_P (pp_I (pid_seq (pd_P (pp_D (pd_fz (po_call G_rows_for (hr.mono h_rows_for) (by rfl) (takes_of rfl rfl rfl rfl) (paa_val (pd_P (pp_var 0)) (paa_val (pd_P (pp_var 3)) (paa_val (pd_P (pp_var 5)) (paa_nil)))) (aLen_val (aLen_val (aLen_val (aLen_nil)))))) (dn_call (dna_val (dna_val (dna_val (dna_nil)))))))) dn_seq)) (pgd_name (i := 6) (ix := [6]) sc_all_valuations.nd (by first | exact Or.inl rfl | exact Or.inr rfl) (fun q => nomatch q) (by decide)) (pssd_never)))) (psd_one (psd_set (i := 2) sc_all_valuations.nd (by first | exact Or.inl rfl | exact Or.inr rfl) (po_sh (pd_Fr [4] (pd_P (pp_D (pd_listVals rfl (pd_P (pp_var 4)) (by rfl) T.n_list) dn_un)))) (fun q => nomatch q)))))) (psd_one (psd_ret (po_sh (pd_P (pp_var 2))))))
theorem g_all_valuations {k : Nat} {k_rows_for : Nat} {r_rows_for : List O → Rs O} {fa : Addr} {fd : FuncData} {run : List O → Rs O} (T : Tx P w K mg base) (G_rows_for : FnG P w K mg base k_rows_for "rows_for" bs_rows_for r_rows_for) (h_rows_for : k_rows_for ≤ k) (F : Fun K "all_valuations" "all_valuations" s_all_valuations fa fd) (m : mg "all_valuations" = some (.ref fa))
    (hrun : ∀ os, os.length = 2 → run os ≠ .bad → fnRun bs_all_valuations 8 (b_all_valuations r_rows_for) os = run os) : FnG P w K mg base (k + 1) "all_valuations" bs_all_valuations run :=
  ⟨fa, fd, p_all_valuations, fnD F sc_all_valuations rfl rfl hrun (fun cdv A outer s H vs E hr => d_all_valuations T G_rows_for h_rows_for hr), m, F.kp, F.binds fun _ _ _ _ _ _ us hl => match us, hl with | [_, _], _ => rfl⟩
/-! ### plain_answer -/
abbrev s_plain_answer : Stmt := topS 26
abbrev N_plain_answer : List Str := ["schema", "state", "question", "found", "valuation"]
abbrev p_plain_answer : List Str := ["schema", "state", "question"]
theorem sc_plain_answer : FnScope N_plain_answer p_plain_answer (defScope s_plain_answer) := ⟨rfl, rfl, rfl, by decide +kernel, rfl, by decide +kernel, by decide +kernel⟩
def b_plain_answer (r_check_question r_all_valuations : List O → Rs O) : En → Rs Fl := sSeq (sDo (eP (pCall r_check_question (pCons (pVar 0) (pCons (pVar 2) (pNil)))))) (sSeq (sSet 3 (oDic0)) (sSeq (sFor (eP (pSeq itemsD (pCall r_all_valuations (pCons (pVar 1) (pCons (pBin idxD (pVar 2) (pC (.int 1))) (pNil)))))) (tgN 4) (sNever)) (sRet (eSh (eFr [3] (eP (pAll sortDD (pCons (pVar 3) (pNil)))))))))
theorem d_plain_answer {k : Nat} {k_check_question : Nat} {r_check_question : List O → Rs O} {k_all_valuations : Nat} {r_all_valuations : List O → Rs O} {fa : Addr} {cdv : Value} {A : Around} {outer : List Env} {s : Shared} {H : Hp} {vs : List V} {E : XK} (T : Tx P w K mg base) (G_check_question : FnG P w K mg base k_check_question "check_question" bs_check_question r_check_question) (h_check_question : k_check_question ≤ k) (G_all_valuations : FnG P w K mg base k_all_valuations "all_valuations" bs_all_valuations r_all_valuations) (h_all_valuations : k_all_valuations ≤ k) (hr : Room k (A.deeper (envOfC "plain_answer" (defScope s_plain_answer) s.heap.objs.size fa cdv))) :
    PSs (cxOf (L2.CX P w) P w K mg base N_plain_answer "plain_answer" (defScope s_plain_answer) fa cdv A outer s H E) (defBody s_plain_answer) (tS ⟨K, mg⟩ (fun c d _ H => E c d H) ⟨bs_plain_answer, vs⟩ (b_plain_answer r_check_question r_all_valuations)) :=
  psd_cons (psd_expr (pd_P (pp_D (pd_fz (po_call G_check_question (hr.mono h_check_question) (by rfl) (takes_of rfl rfl rfl rfl) (paa_val (pd_P (pp_var 0)) (paa_val (pd_P (pp_var 2)) (paa_nil))) (aLen_val (aLen_val (aLen_nil))))) (dn_call (dna_val (dna_val (dna_nil))))))) (psd_cons (psd_set (i := 3) sc_plain_answer.nd (by first | exact Or.inl rfl | exact Or.inr rfl) (po_dic0) (fun q => nomatch q)) (psd_cons (psd_for (passes_of rfl) rfl (pid_P (pp_I (pid_seq (pd_P (pp_D (pd_fz (po_call G_all_valuations (hr.mono h_all_valuations) (by rfl) (takes_of rfl rfl rfl rfl) (paa_val (pd_P (pp_var 1)) (paa_val (pd_P (pp_ix (hu_of hr) (pp_var 2) (pp_int) (fun _ _ => rfl))) (paa_nil))) (aLen_val (aLen_val (aLen_nil))))) (dn_call (dna_val (dna_val (dna_nil))))))) dn_seq)) (pgd_name (i := 4) (ix := [4]) sc_plain_answer.nd (by first | exact Or.inl rfl | exact Or.inr rfl) (fun q => nomatch q) (by decide)) (pssd_never)) (psd_one (psd_ret (po_sh (pd_Fr [3] (pd_P (pp_D (pd_callB (cd_sortD rfl) (by rfl) T.n_sorted (by decide +kernel) (pad_P (pap_cons (pp_var 3) (pap_nil)))) dn_all))))))))
theorem g_plain_answer {k : Nat} {k_check_question : Nat} {r_check_question : List O → Rs O} {k_all_valuations : Nat} {r_all_valuations : List O → Rs O} {fa : Addr} {fd : FuncData} {run : List O → Rs O} (T : Tx P w K mg base) (G_check_question : FnG P w K mg base k_check_question "check_question" bs_check_question r_check_question) (h_check_question : k_check_question ≤ k) (G_all_valuations : FnG P w K mg base k_all_valuations "all_valuations" bs_all_valuations r_all_valuations) (h_all_valuations : k_all_valuations ≤ k) (F : Fun K "plain_answer" "plain_answer" s_plain_answer fa fd) (m : mg "plain_answer" = some (.ref fa))
    (hrun : ∀ os, os.length = 3 → run os ≠ .bad → fnRun bs_plain_answer 5 (b_plain_answer r_check_question r_all_valuations) os = run os) : FnG P w K mg base (k + 1) "plain_answer" bs_plain_answer run :=
  ⟨fa, fd, p_plain_answer, fnD F sc_plain_answer rfl rfl hrun (fun cdv A outer s H vs E hr => d_plain_answer T G_check_question h_check_question G_all_valuations h_all_valuations hr), m, F.kp, F.binds fun _ _ _ _ _ _ us hl => match us, hl with | [_, _, _], _ => rfl⟩
/-! ### _law_tape -/
abbrev s__law_tape : Stmt := topS 28
abbrev N__law_tape : List Str := ["script", "cells", "cell", "seed"]
abbrev p__law_tape : List Str := ["script"]
theorem sc__law_tape : FnScope N__law_tape p__law_tape (defScope s__law_tape) := ⟨rfl, rfl, rfl, by decide +kernel, rfl, by decide +kernel, by decide +kernel⟩
theorem d__law_tape {k : Nat} {fa : Addr} {cdv : Value} {A : Around} {outer : List Env} {s : Shared} {H : Hp} {vs : List V} {E : XK} (T : Tx P w K mg base) (hr : Room k (A.deeper (envOfC "_law_tape" (defScope s__law_tape) s.heap.objs.size fa cdv))) :
    PSs (cxOf (L2.CX P w) P w K mg base N__law_tape "_law_tape" (defScope s__law_tape) fa cdv A outer s H E) (defBody s__law_tape) (tS ⟨K, mg⟩ (fun c d _ H => E c d H) ⟨bs__law_tape, vs⟩ (b__law_tape)) :=
  psd_cons (psd_fz [1] (psd_setLc (i := 1) (own := [("cell", 2)]) rfl sc__law_tape.nd rfl (fun q => nomatch q) (sw_true rfl rfl rfl (by decide +kernel)) (pid_scr 0) (blkOk_by (own := [("cell", 2)]) (N := N__law_tape) (sc := defScope s__law_tape) (by decide +kernel)) (fun _ _ _ _ _ => pgd_name (i := 2) (ix := [2]) sc__law_tape.nd (by first | exact Or.inl rfl | exact Or.inr rfl) (fun q => nomatch q) (by decide)) (fun _ _ _ _ _ => ptsd_nil) (fun _ _ _ _ _ => pd_P (pp_D (pd_callB cd_abs (by rfl) T.n_abs (by decide +kernel) (pad_P (pap_cons (pp_D (pd_callTy cd_int (by rfl) T.n_int (by decide +kernel) (pad_P (pap_cons (pp_var 2) (pap_nil)))) dn_all) (pap_nil)))) dn_all)))) (psd_cons (psd_set (i := 3) sc__law_tape.nd (by first | exact Or.inl rfl | exact Or.inr rfl) (po_sh (pd_P (pp_int))) (fun q => nomatch q)) (psd_cons (psd_for (passes_of rfl) rfl (pid_P (pp_I (pid_seq (pd_P (pp_var 1))) dn_seq)) (pgd_name (i := 2) (ix := [2]) sc__law_tape.nd (by first | exact Or.inl rfl | exact Or.inr rfl) (fun q => nomatch q) (by decide)) (psd_one (psd_set (i := 3) sc__law_tape.nd (by first | exact Or.inl rfl | exact Or.inr rfl) (po_sh (pd_P (pp_bin od_mod (pp_D (pd_callTy cd_int (by rfl) T.n_int (by decide +kernel) (pad_P (pap_cons (pp_bin od_add (pp_bin od_mul (pp_var 3) (pp_int)) (pp_var 2)) (pap_nil)))) dn_all) (pp_int)))) (fun q => nomatch q)))) (psd_one (psd_ret (po_dic (ps := [(eP (pC (.str (Str.ofString "cells"))), eP (pVar 1)), (eP (pC (.str (Str.ofString "at"))), eP (pC (.int 0))), (eP (pC (.str (Str.ofString "left"))), eP (pC (.int 0))), (eP (pC (.str (Str.ofString "seed"))), eP (pVar 3)), (eP (pC (.str (Str.ofString "salt"))), eP (pC (.int 0)))]) (pps_cons (pd_P (pp_str)) (pd_P (pp_var 1)) (pps_cons (pd_P (pp_str)) (pd_P (pp_int)) (pps_cons (pd_P (pp_str)) (pd_P (pp_int)) (pps_cons (pd_P (pp_str)) (pd_P (pp_var 3)) (pps_cons (pd_P (pp_str)) (pd_P (pp_int)) (pps_nil)))))))))))
theorem g__law_tape {k : Nat} {fa : Addr} {fd : FuncData} {run : List O → Rs O} (T : Tx P w K mg base) (F : Fun K "_law_tape" "_law_tape" s__law_tape fa fd) (m : mg "_law_tape" = some (.ref fa))
    (hrun : ∀ os, os.length = 1 → run os ≠ .bad → fnRun bs__law_tape 4 (b__law_tape) os = run os) : FnG P w K mg base (k + 1) "_law_tape" bs__law_tape run :=
  ⟨fa, fd, p__law_tape, fnD F sc__law_tape rfl rfl hrun (fun cdv A outer s H vs E hr => d__law_tape T hr), m, F.kp, F.binds fun _ _ _ _ _ _ us hl => match us, hl with | [_], _ => rfl⟩
/-! ### _law_take -/
abbrev s__law_take : Stmt := topS 29
abbrev N__law_take : List Str := ["tape", "many", "drawn", "mixed"]
abbrev p__law_take : List Str := ["tape", "many"]
theorem sc__law_take : FnScope N__law_take p__law_take (defScope s__law_take) := ⟨rfl, rfl, rfl, by decide +kernel, rfl, by decide +kernel, by decide +kernel⟩
theorem d__law_take {k : Nat} {fa : Addr} {cdv : Value} {A : Around} {outer : List Env} {s : Shared} {H : Hp} {vs : List V} {E : XK} (T : Tx P w K mg base) (hr : Room k (A.deeper (envOfC "_law_take" (defScope s__law_take) s.heap.objs.size fa cdv))) :
    PSs (cxOf (L2.CX P w) P w K mg base N__law_take "_law_take" (defScope s__law_take) fa cdv A outer s H E) (defBody s__law_take) (tS ⟨K, mg⟩ (fun c d _ H => E c d H) ⟨bs__law_take, vs⟩ (b__law_take)) :=
  psd_cons (psd_if (ptd_Pk [0] (PW.pt (pwp_and (ptp_cmp (od_eq hr.units) (pp_ix (hu_of hr) (pp_var 0) (pp_str) (fun _ _ => rfl)) (pp_int) (nomark _)) (pwp_and1 (ptp_cmp od_lt (pp_ix (hu_of hr) (pp_var 0) (pp_str) (fun _ _ => rfl)) (pp_D (pd_callB cd_len (by rfl) T.n_len (by decide +kernel) (pad_P (pap_cons (pp_ix (hu_of hr) (pp_var 0) (pp_str) (fun _ _ => rfl)) (pap_nil)))) dn_all) (nomark _)))))) (psd_cons (psd_put (hu_of hr) 0 (pd_P (pp_str)) (pd_Pk [0] (pp_ix (hu_of hr) (pp_ix (hu_of hr) (pp_var 0) (pp_str) (fun _ _ => rfl)) (pp_ix (hu_of hr) (pp_var 0) (pp_str) (fun _ _ => rfl)) (fun _ _ => rfl)))) (psd_one (psd_put (hu_of hr) 0 (pd_P (pp_str)) (pd_Pk [0] (pp_bin od_add (pp_ix (hu_of hr) (pp_var 0) (pp_str) (fun _ _ => rfl)) (pp_int)))))) (psd_nil)) (psd_cons (psd_if (ptd_Pk [0] (ptp_cmp od_gt (pp_ix (hu_of hr) (pp_var 0) (pp_str) (fun _ _ => rfl)) (pp_int) (nomark _))) (psd_cons (psd_set (i := 2) sc__law_take.nd (by first | exact Or.inl rfl | exact Or.inr rfl) (po_sh (pd_Pk [0] (pp_bin od_mod (pp_D (pd_callTy cd_int (by rfl) T.n_int (by decide +kernel) (pad_P (pap_cons (pp_ix (hu_of hr) (pp_var 0) (pp_str) (fun _ _ => rfl)) (pap_nil)))) dn_all) (pp_var 1)))) (fun q => nomatch q)) (psd_cons (psd_put (hu_of hr) 0 (pd_P (pp_str)) (pd_Pk [0] (pp_bin od_fdiv (pp_ix (hu_of hr) (pp_var 0) (pp_str) (fun _ _ => rfl)) (pp_var 1)))) (psd_one (psd_ret (po_sh (pd_P (pp_var 2))))))) (psd_nil)) (psd_cons (psd_put (hu_of hr) 0 (pd_P (pp_str)) (pd_Pk [0] (pp_bin od_add (pp_ix (hu_of hr) (pp_var 0) (pp_str) (fun _ _ => rfl)) (pp_int)))) (psd_cons (psd_set (i := 3) sc__law_take.nd (by first | exact Or.inl rfl | exact Or.inr rfl) (po_sh (pd_Pk [0] (pp_bin od_mod (pp_D (pd_callTy cd_int (by rfl) T.n_int (by decide +kernel) (pad_P (pap_cons (pp_bin od_add (pp_bin od_mul (pp_ix (hu_of hr) (pp_var 0) (pp_str) (fun _ _ => rfl)) (pp_int)) (pp_bin od_mul (pp_ix (hu_of hr) (pp_var 0) (pp_str) (fun _ _ => rfl)) (pp_int))) (pap_nil)))) dn_all) (pp_int)))) (fun q => nomatch q)) (psd_cons (psd_set (i := 3) sc__law_take.nd (by first | exact Or.inl rfl | exact Or.inr rfl) (po_sh (pd_Pk [0] (pp_bin od_mod (pp_D (pd_callTy cd_int (by rfl) T.n_int (by decide +kernel) (pad_P (pap_cons (pp_bin od_add (pp_bin od_add (pp_bin od_mul (pp_var 3) (pp_var 3)) (pp_bin od_mul (pp_ix (hu_of hr) (pp_var 0) (pp_str) (fun _ _ => rfl)) (pp_int))) (pp_int)) (pap_nil)))) dn_all) (pp_int)))) (fun q => nomatch q)) (psd_one (psd_ret (po_sh (pd_P (pp_bin od_mod (pp_D (pd_callTy cd_int (by rfl) T.n_int (by decide +kernel) (pad_P (pap_cons (pp_var 3) (pap_nil)))) dn_all) (pp_var 1))))))))))
theorem g__law_take {k : Nat} {fa : Addr} {fd : FuncData} {run : List O → Rs O} (T : Tx P w K mg base) (F : Fun K "_law_take" "_law_take" s__law_take fa fd) (m : mg "_law_take" = some (.ref fa))
    (hrun : ∀ os, os.length = 2 → run os ≠ .bad → fnRun bs__law_take 4 (b__law_take) os = run os) : FnG P w K mg base (k + 1) "_law_take" bs__law_take run :=
  ⟨fa, fd, p__law_take, fnD F sc__law_take rfl rfl hrun (fun cdv A outer s H vs E hr => d__law_take T hr), m, F.kp, F.binds fun _ _ _ _ _ _ us hl => match us, hl with | [_, _], _ => rfl⟩
/-! ### _law_small -/
abbrev s__law_small : Stmt := topS 34
abbrev N__law_small : List Str := ["tape", "kind", "nullable"]
abbrev p__law_small : List Str := ["tape", "kind", "nullable"]
theorem sc__law_small : FnScope N__law_small p__law_small (defScope s__law_small) := ⟨rfl, rfl, rfl, by decide +kernel, rfl, by decide +kernel, by decide +kernel⟩
theorem d__law_small {k : Nat} {k__law_take : Nat} {r__law_take : List O → Rs O} {fa : Addr} {cdv : Value} {A : Around} {outer : List Env} {s : Shared} {H : Hp} {vs : List V} {E : XK} (T : Tx P w K mg base) (G__law_take : FnG P w K mg base k__law_take "_law_take" bs__law_take r__law_take) (h__law_take : k__law_take ≤ k) (hr : Room k (A.deeper (envOfC "_law_small" (defScope s__law_small) s.heap.objs.size fa cdv))) :
    PSs (cxOf (L2.CX P w) P w K mg base N__law_small "_law_small" (defScope s__law_small) fa cdv A outer s H E) (defBody s__law_small) (tS ⟨K, mg⟩ (fun c d _ H => E c d H) ⟨bs__law_small, vs⟩ (b__law_small r__law_take)) :=
  psd_cons (psd_if (PW.pt (pwd_and (ptd_P (ptp_tru (pp_var 2))) (pwd_and1 (ptd_cmp (od_eq hr.units) (pd_fz (po_call G__law_take (hr.mono h__law_take) (by rfl) (takes_of rfl rfl rfl rfl) (paa_bor 0 (paa_val (pd_P (pp_int)) (paa_nil))) (aLen_bor (aLen_val (aLen_nil))))) (pd_P (pp_int)) (nomark _))))) (psd_one (psd_ret (po_sh (pd_P (pp_non))))) (psd_nil)) (psd_one (psd_ret (po_sh (pd_if (ptd_P (ptp_cmp (od_eq hr.units) (pp_var 1) (pp_str) (nomark _))) (pd_fz (po_call G__law_take (hr.mono h__law_take) (by rfl) (takes_of rfl rfl rfl rfl) (paa_bor 0 (paa_val (pd_P (pp_int)) (paa_nil))) (aLen_bor (aLen_val (aLen_nil))))) (pd_ix (hu_of hr) (pd_P (pp_str)) (pd_fz (po_call G__law_take (hr.mono h__law_take) (by rfl) (takes_of rfl rfl rfl rfl) (paa_bor 0 (paa_val (pd_P (pp_int)) (paa_nil))) (aLen_bor (aLen_val (aLen_nil))))) (fun _ _ => rfl))))))
theorem g__law_small {k : Nat} {k__law_take : Nat} {r__law_take : List O → Rs O} {fa : Addr} {fd : FuncData} {run : List O → Rs O} (T : Tx P w K mg base) (G__law_take : FnG P w K mg base k__law_take "_law_take" bs__law_take r__law_take) (h__law_take : k__law_take ≤ k) (F : Fun K "_law_small" "_law_small" s__law_small fa fd) (m : mg "_law_small" = some (.ref fa))
    (hrun : ∀ os, os.length = 3 → run os ≠ .bad → fnRun bs__law_small 3 (b__law_small r__law_take) os = run os) : FnG P w K mg base (k + 1) "_law_small" bs__law_small run :=
  ⟨fa, fd, p__law_small, fnD F sc__law_small rfl rfl hrun (fun cdv A outer s H vs E hr => d__law_small T G__law_take h__law_take hr), m, F.kp, F.binds fun _ _ _ _ _ _ us hl => match us, hl with | [_, _, _], _ => rfl⟩
/-! ### _law_plain_schema -/
abbrev s__law_plain_schema : Stmt := topS 35
abbrev N__law_plain_schema : List Str := ["tape", "schema", "table", "columns", "name"]
abbrev p__law_plain_schema : List Str := ["tape"]
theorem sc__law_plain_schema : FnScope N__law_plain_schema p__law_plain_schema (defScope s__law_plain_schema) := ⟨rfl, rfl, rfl, by decide +kernel, rfl, by decide +kernel, by decide +kernel⟩
theorem d__law_plain_schema {k : Nat} {k__law_take : Nat} {r__law_take : List O → Rs O} {fa : Addr} {cdv : Value} {A : Around} {outer : List Env} {s : Shared} {H : Hp} {vs : List V} {E : XK} (T : Tx P w K mg base) (G__law_take : FnG P w K mg base k__law_take "_law_take" bs__law_take r__law_take) (h__law_take : k__law_take ≤ k) (hr : Room k (A.deeper (envOfC "_law_plain_schema" (defScope s__law_plain_schema) s.heap.objs.size fa cdv))) :
    PSs (cxOf (L2.CX P w) P w K mg base N__law_plain_schema "_law_plain_schema" (defScope s__law_plain_schema) fa cdv A outer s H E) (defBody s__law_plain_schema) (tS ⟨K, mg⟩ (fun c d _ H => E c d H) ⟨bs__law_plain_schema, vs⟩ (b__law_plain_schema r__law_take)) :=
  psd_cons (psd_set (i := 1) sc__law_plain_schema.nd (by first | exact Or.inl rfl | exact Or.inr rfl) (po_dic0) (fun q => nomatch q)) (psd_cons (psd_for (passes_of rfl) rfl (pid_seq (pd_sl (pd_P (pp_lst (pap_cons (pp_str) (pap_cons (pp_str) (pap_cons (pp_str) (pap_nil)))))) (pod_none) (pod_some (pd_bin od_add (pd_P (pp_int)) (pd_fz (po_call G__law_take (hr.mono h__law_take) (by rfl) (takes_of rfl rfl rfl rfl) (paa_bor 0 (paa_val (pd_P (pp_int)) (paa_nil))) (aLen_bor (aLen_val (aLen_nil))))))))) (pgd_name (i := 2) (ix := [2]) sc__law_plain_schema.nd (by first | exact Or.inl rfl | exact Or.inr rfl) (fun q => nomatch q) (by decide)) (psd_cons (psd_set (i := 3) sc__law_plain_schema.nd (by first | exact Or.inl rfl | exact Or.inr rfl) (po_lst (pad_cons (pd_tup (pad_cons (pd_P (pp_str)) (pad_cons (pd_ix (hu_of hr) (pd_P (pp_lst (pap_cons (pp_str) (pap_cons (pp_str) (pap_cons (pp_str) (pap_nil)))))) (pd_fz (po_call G__law_take (hr.mono h__law_take) (by rfl) (takes_of rfl rfl rfl rfl) (paa_bor 0 (paa_val (pd_P (pp_int)) (paa_nil))) (aLen_bor (aLen_val (aLen_nil))))) (fun _ _ => rfl)) (pad_cons (pd_P (pp_bl)) (pad_nil))))) (pad_nil))) (fun q => nomatch q)) (psd_cons (psd_for (passes_of rfl) rfl (pid_seq (pd_sl (pd_P (pp_lst (pap_cons (pp_str) (pap_cons (pp_str) (pap_cons (pp_str) (pap_nil)))))) (pod_none) (pod_some (pd_fz (po_call G__law_take (hr.mono h__law_take) (by rfl) (takes_of rfl rfl rfl rfl) (paa_bor 0 (paa_val (pd_P (pp_int)) (paa_nil))) (aLen_bor (aLen_val (aLen_nil)))))))) (pgd_name (i := 4) (ix := [4]) sc__law_plain_schema.nd (by first | exact Or.inl rfl | exact Or.inr rfl) (fun q => nomatch q) (by decide)) (psd_one (psd_app 3 (pd_tup (pad_cons (pd_P (pp_var 4)) (pad_cons (pd_ix (hu_of hr) (pd_P (pp_lst (pap_cons (pp_str) (pap_cons (pp_str) (pap_nil))))) (pd_fz (po_call G__law_take (hr.mono h__law_take) (by rfl) (takes_of rfl rfl rfl rfl) (paa_bor 0 (paa_val (pd_P (pp_int)) (paa_nil))) (aLen_bor (aLen_val (aLen_nil))))) (fun _ _ => rfl)) (pad_cons (pd_cmp (od_eq hr.units) (pd_fz (po_call G__law_take (hr.mono h__law_take) (by rfl) (takes_of rfl rfl rfl rfl) (paa_bor 0 (paa_val (pd_P (pp_int)) (paa_nil))) (aLen_bor (aLen_val (aLen_nil))))) (pd_P (pp_int)) (nomark _)) (pad_nil)))))))) (psd_one (psd_put (hu_of hr) 1 (pd_P (pp_var 2)) (pd_Fr [3] (pd_P (pp_D (pd_fz (po_dic (ps := [(eP (pC (.str (Str.ofString "columns"))), eP (pVar 3)), (eP (pC (.str (Str.ofString "checks"))), eP (pAll lstD (pNil))), (eP (pC (.str (Str.ofString "uniques"))), eP (pAll lstD (pNil))), (eP (pC (.str (Str.ofString "references"))), eP (pAll lstD (pNil)))]) (pps_cons (pd_P (pp_str)) (pd_P (pp_var 3)) (pps_cons (pd_P (pp_str)) (pd_P (pp_lst (pap_nil))) (pps_cons (pd_P (pp_str)) (pd_P (pp_lst (pap_nil))) (pps_cons (pd_P (pp_str)) (pd_P (pp_lst (pap_nil))) (pps_nil))))))) (dn_dic (ps := [(pC (.str (Str.ofString "columns")), pVar 3), (pC (.str (Str.ofString "checks")), pAll lstD (pNil)), (pC (.str (Str.ofString "uniques")), pAll lstD (pNil)), (pC (.str (Str.ofString "references")), pAll lstD (pNil))])))))))))) (psd_one (psd_ret (po_sh (pd_var 1)))))
theorem g__law_plain_schema {k : Nat} {k__law_take : Nat} {r__law_take : List O → Rs O} {fa : Addr} {fd : FuncData} {run : List O → Rs O} (T : Tx P w K mg base) (G__law_take : FnG P w K mg base k__law_take "_law_take" bs__law_take r__law_take) (h__law_take : k__law_take ≤ k) (F : Fun K "_law_plain_schema" "_law_plain_schema" s__law_plain_schema fa fd) (m : mg "_law_plain_schema" = some (.ref fa))
    (hrun : ∀ os, os.length = 1 → run os ≠ .bad → fnRun bs__law_plain_schema 5 (b__law_plain_schema r__law_take) os = run os) : FnG P w K mg base (k + 1) "_law_plain_schema" bs__law_plain_schema run :=
  ⟨fa, fd, p__law_plain_schema, fnD F sc__law_plain_schema rfl rfl hrun (fun cdv A outer s H vs E hr => d__law_plain_schema T G__law_take h__law_take hr), m, F.kp, F.binds fun _ _ _ _ _ _ us hl => match us, hl with | [_], _ => rfl⟩
/-! ### _law_term -/
abbrev s__law_term : Stmt := topS 37
abbrev N__law_term : List Str := ["tape", "column", "choice", "names"]
abbrev p__law_term : List Str := ["tape", "column"]
theorem sc__law_term : FnScope N__law_term p__law_term (defScope s__law_term) := ⟨rfl, rfl, rfl, by decide +kernel, rfl, by decide +kernel, by decide +kernel⟩
theorem d__law_term {k : Nat} {k__law_take : Nat} {r__law_take : List O → Rs O} {k__law_small : Nat} {r__law_small : List O → Rs O} {fa : Addr} {cdv : Value} {A : Around} {outer : List Env} {s : Shared} {H : Hp} {vs : List V} {E : XK} (T : Tx P w K mg base) (G__law_take : FnG P w K mg base k__law_take "_law_take" bs__law_take r__law_take) (h__law_take : k__law_take ≤ k) (G__law_small : FnG P w K mg base k__law_small "_law_small" bs__law_small r__law_small) (h__law_small : k__law_small ≤ k) (hr : Room k (A.deeper (envOfC "_law_term" (defScope s__law_term) s.heap.objs.size fa cdv))) :
    PSs (cxOf (L2.CX P w) P w K mg base N__law_term "_law_term" (defScope s__law_term) fa cdv A outer s H E) (defBody s__law_term) (tS ⟨K, mg⟩ (fun c d _ H => E c d H) ⟨bs__law_term, vs⟩ (b__law_term r__law_take r__law_small)) :=
  psd_cons (psd_set (i := 2) sc__law_term.nd (by first | exact Or.inl rfl | exact Or.inr rfl) (po_sh (pd_fz (po_call G__law_take (hr.mono h__law_take) (by rfl) (takes_of rfl rfl rfl rfl) (paa_bor 0 (paa_val (pd_P (pp_int)) (paa_nil))) (aLen_bor (aLen_val (aLen_nil)))))) (fun q => nomatch q)) (psd_cons (psd_if (ptd_P (PW.pt (pwp_and (ptp_tru (pp_ix (hu_of hr) (pp_var 1) (pp_int) (fun _ _ => rfl))) (pwp_and1 (ptp_cmp od_lt (pp_var 2) (pp_int) (nomark _)))))) (psd_one (psd_ret (po_sh (pd_P (pp_non))))) (psd_nil)) (psd_cons (psd_if (ptd_P (ptp_cmp (od_eq hr.units) (pp_var 2) (pp_int) (nomark _))) (psd_one (psd_ret (po_sh (pd_tup (pad_cons (pd_P (pp_str)) (pad_cons (pd_fz (po_call G__law_small (hr.mono h__law_small) (by rfl) (takes_of rfl rfl rfl rfl) (paa_bor 0 (paa_val (pd_P (pp_ix (hu_of hr) (pp_var 1) (pp_int) (fun _ _ => rfl))) (paa_val (pd_P (pp_bl)) (paa_nil)))) (aLen_bor (aLen_val (aLen_val (aLen_nil)))))) (pad_nil))))))) (psd_nil)) (psd_cons (psd_set (i := 3) sc__law_term.nd (by first | exact Or.inl rfl | exact Or.inr rfl) (po_sh (pd_P (pp_if (ptp_cmp (od_eq hr.units) (pp_ix (hu_of hr) (pp_var 1) (pp_int) (fun _ _ => rfl)) (pp_str) (nomark _)) (pp_lst (pap_cons (pp_str) (pap_cons (pp_str) (pap_cons (pp_str) (pap_nil))))) (pp_lst (pap_cons (pp_str) (pap_cons (pp_str) (pap_cons (pp_str) (pap_nil)))))))) (fun q => nomatch q)) (psd_one (psd_ret (po_sh (pd_tup (pad_cons (pd_P (pp_str)) (pad_cons (pd_sub (hu_of hr) 3 (pd_fz (po_call G__law_take (hr.mono h__law_take) (by rfl) (takes_of rfl rfl rfl rfl) (paa_bor 0 (paa_val (pd_P (pp_int)) (paa_nil))) (aLen_bor (aLen_val (aLen_nil))))) (fun _ _ => rfl)) (pad_nil))))))))))
theorem g__law_term {k : Nat} {k__law_take : Nat} {r__law_take : List O → Rs O} {k__law_small : Nat} {r__law_small : List O → Rs O} {fa : Addr} {fd : FuncData} {run : List O → Rs O} (T : Tx P w K mg base) (G__law_take : FnG P w K mg base k__law_take "_law_take" bs__law_take r__law_take) (h__law_take : k__law_take ≤ k) (G__law_small : FnG P w K mg base k__law_small "_law_small" bs__law_small r__law_small) (h__law_small : k__law_small ≤ k) (F : Fun K "_law_term" "_law_term" s__law_term fa fd) (m : mg "_law_term" = some (.ref fa))
    (hrun : ∀ os, os.length = 2 → run os ≠ .bad → fnRun bs__law_term 4 (b__law_term r__law_take r__law_small) os = run os) : FnG P w K mg base (k + 1) "_law_term" bs__law_term run :=
  ⟨fa, fd, p__law_term, fnD F sc__law_term rfl rfl hrun (fun cdv A outer s H vs E hr => d__law_term T G__law_take h__law_take G__law_small h__law_small hr), m, F.kp, F.binds fun _ _ _ _ _ _ us hl => match us, hl with | [_, _], _ => rfl⟩
/-! ### _law_question -/
abbrev s__law_question : Stmt := topS 38
abbrev N__law_question : List Str := ["tape", "schema", "most", "tables", "atoms", "k", "table", "column", "names", "terms", "term", "head"]
abbrev p__law_question : List Str := ["tape", "schema", "most"]
theorem sc__law_question : FnScope N__law_question p__law_question (defScope s__law_question) := ⟨rfl, rfl, rfl, by decide +kernel, rfl, by decide +kernel, by decide +kernel⟩
theorem d__law_question {k : Nat} {k__law_take : Nat} {r__law_take : List O → Rs O} {k__law_term : Nat} {r__law_term : List O → Rs O} {fa : Addr} {cdv : Value} {A : Around} {outer : List Env} {s : Shared} {H : Hp} {vs : List V} {E : XK} (T : Tx P w K mg base) (G__law_take : FnG P w K mg base k__law_take "_law_take" bs__law_take r__law_take) (h__law_take : k__law_take ≤ k) (G__law_term : FnG P w K mg base k__law_term "_law_term" bs__law_term r__law_term) (h__law_term : k__law_term ≤ k) (hr : Room k (A.deeper (envOfC "_law_question" (defScope s__law_question) s.heap.objs.size fa cdv))) :
    PSs (cxOf (L2.CX P w) P w K mg base N__law_question "_law_question" (defScope s__law_question) fa cdv A outer s H E) (defBody s__law_question) (tS ⟨K, mg⟩ (fun c d _ H => E c d H) ⟨bs__law_question, vs⟩ (b__law_question r__law_take r__law_term)) :=
  psd_cons (psd_set (i := 3) sc__law_question.nd (by first | exact Or.inl rfl | exact Or.inr rfl) (po_sh (pd_P (pp_D (pd_callB (cd_sortD rfl) (by rfl) T.n_sorted (by decide +kernel) (pad_P (pap_cons (pp_var 1) (pap_nil)))) dn_all))) (fun q => nomatch q)) (psd_cons (psd_set (i := 4) sc__law_question.nd (by first | exact Or.inl rfl | exact Or.inr rfl) (po_lst (pad_P (pap_nil))) (fun q => nomatch q)) (psd_cons (psd_for (passes_of rfl) rfl (pid_rng (by rfl) T.n_range (pd_bin od_add (pd_P (pp_int)) (pd_fz (po_call G__law_take (hr.mono h__law_take) (by rfl) (takes_of rfl rfl rfl rfl) (paa_bor 0 (paa_val (pd_P (pp_var 2)) (paa_nil))) (aLen_bor (aLen_val (aLen_nil))))))) (pgd_name (i := 5) (ix := [5]) sc__law_question.nd (by first | exact Or.inl rfl | exact Or.inr rfl) (fun q => nomatch q) (by decide)) (psd_cons (psd_set (i := 6) sc__law_question.nd (by first | exact Or.inl rfl | exact Or.inr rfl) (po_sh (pd_sub (hu_of hr) 3 (pd_fz (po_call G__law_take (hr.mono h__law_take) (by rfl) (takes_of rfl rfl rfl rfl) (paa_bor 0 (paa_val (pd_P (pp_D (pd_callB cd_len (by rfl) T.n_len (by decide +kernel) (pad_P (pap_cons (pp_var 3) (pap_nil)))) dn_all)) (paa_nil))) (aLen_bor (aLen_val (aLen_nil))))) (fun _ _ => rfl))) (fun q => nomatch q)) (psd_one (psd_app 4 (pd_tup (pad_cons (pd_P (pp_var 6)) (pad_cons (pd_callTy cd_tuple (by rfl) T.n_tuple (by decide +kernel) (pad_cons (pd_fz (po_comp (own := [("column", 7)]) rfl sc__law_question.nd (pid_P (pp_I (pid_seq (pd_P (pp_ix (hu_of hr) (pp_ix (hu_of hr) (pp_var 1) (pp_var 6) (fun _ _ => rfl)) (pp_str) (fun _ _ => rfl)))) dn_seq)) (blkOk_by (own := [("column", 7)]) (N := N__law_question) (sc := defScope s__law_question) (by decide +kernel)) (fun _ _ _ _ _ => pgd_name (i := 7) (ix := [7]) sc__law_question.nd (by first | exact Or.inl rfl | exact Or.inr rfl) (fun q => nomatch q) (by decide)) (fun _ _ _ _ _ => ptsd_nil) (fun _ _ _ _ _ => pd_fz (po_call G__law_term (hr.mono h__law_term) (by rfl) takes0 (paa_bor 0 (paa_val (pd_P (pp_var 7)) (paa_nil))) (aLen_bor (aLen_val (aLen_nil))))))) (pad_nil))) (pad_nil)))))))) (psd_cons (psd_set (i := 8) sc__law_question.nd (by first | exact Or.inl rfl | exact Or.inr rfl) (po_sh (pd_P (pp_lst (pap_nil)))) (fun q => nomatch q)) (psd_cons (psd_for (passes_of rfl) rfl (pid_seq (pd_var 4)) (pgd_tup rfl (pgsd_cons (pgd_name (i := 6) (ix := [6, 9]) sc__law_question.nd (by first | exact Or.inl rfl | exact Or.inr rfl) (fun q => nomatch q) (by decide)) (pgsd_cons (pgd_name (i := 9) (ix := [6, 9]) sc__law_question.nd (by first | exact Or.inl rfl | exact Or.inr rfl) (fun q => nomatch q) (by decide)) (pgsd_nil)))) (psd_one (psd_set (i := 8) sc__law_question.nd (by first | exact Or.inl rfl | exact Or.inr rfl) (po_sh (pd_P (pp_bin od_add (pp_var 8) (pp_D (pd_fz (po_comp (own := [("term", 10)]) rfl sc__law_question.nd (pid_P (pp_I (pid_seq (pd_P (pp_var 9))) dn_seq)) (blkOk_by (own := [("term", 10)]) (N := N__law_question) (sc := defScope s__law_question) (by decide +kernel)) (fun _ _ _ _ _ => pgd_name (i := 10) (ix := [10]) sc__law_question.nd (by first | exact Or.inl rfl | exact Or.inr rfl) (fun q => nomatch q) (by decide)) (fun _ _ _ _ _ => ptsd_one (ptd_P (PW.pt (pwp_and (ptp_notN (pp_var 10)) (pwp_and (ptp_cmp (od_eq hr.units) (pp_ix (hu_of hr) (pp_var 10) (pp_int) (fun _ _ => rfl)) (pp_str) (nomark _)) (pwp_and1 (ptp_cmp (od_notIn (hu_of hr)) (pp_ix (hu_of hr) (pp_var 10) (pp_int) (fun _ _ => rfl)) (pp_var 8) (by rfl)))))))) (fun _ _ _ _ _ => pd_P (pp_ix (hu_of hr) (pp_var 10) (pp_int) (fun _ _ => rfl))))) (dn_comp (tgs_N (by decide))))))) (fun q => nomatch q)))) (psd_cons (psd_set (i := 11) sc__law_question.nd (by first | exact Or.inl rfl | exact Or.inr rfl) (po_lst (pad_P (pap_nil))) (fun q => nomatch q)) (psd_cons (psd_for (passes_of rfl) rfl (pid_rng (by rfl) T.n_range (pd_fz (po_call G__law_take (hr.mono h__law_take) (by rfl) (takes_of rfl rfl rfl rfl) (paa_bor 0 (paa_val (pd_P (pp_int)) (paa_nil))) (aLen_bor (aLen_val (aLen_nil)))))) (pgd_name (i := 5) (ix := [5]) sc__law_question.nd (by first | exact Or.inl rfl | exact Or.inr rfl) (fun q => nomatch q) (by decide)) (psd_one (psd_if (ptd_P (ptp_cmp (od_ne hr.units) (pp_var 8) (pp_lst (pap_nil)) (nomark _))) (psd_one (psd_app 11 (pd_sub (hu_of hr) 8 (pd_fz (po_call G__law_take (hr.mono h__law_take) (by rfl) (takes_of rfl rfl rfl rfl) (paa_bor 0 (paa_val (pd_P (pp_D (pd_callB cd_len (by rfl) T.n_len (by decide +kernel) (pad_P (pap_cons (pp_var 8) (pap_nil)))) dn_all)) (paa_nil))) (aLen_bor (aLen_val (aLen_nil))))) (fun _ _ => rfl)))) (psd_nil)))) (psd_one (psd_ret (po_sh (pd_Pk [4, 11] (pp_tup (pap_cons (pp_D (pd_callTy cd_tuple (by rfl) T.n_tuple (by decide +kernel) (pad_P (pap_cons (pp_var 11) (pap_nil)))) dn_all) (pap_cons (pp_D (pd_callTy cd_tuple (by rfl) T.n_tuple (by decide +kernel) (pad_P (pap_cons (pp_var 4) (pap_nil)))) dn_all) (pap_nil))))))))))))))
theorem g__law_question {k : Nat} {k__law_take : Nat} {r__law_take : List O → Rs O} {k__law_term : Nat} {r__law_term : List O → Rs O} {fa : Addr} {fd : FuncData} {run : List O → Rs O} (T : Tx P w K mg base) (G__law_take : FnG P w K mg base k__law_take "_law_take" bs__law_take r__law_take) (h__law_take : k__law_take ≤ k) (G__law_term : FnG P w K mg base k__law_term "_law_term" bs__law_term r__law_term) (h__law_term : k__law_term ≤ k) (F : Fun K "_law_question" "_law_question" s__law_question fa fd) (m : mg "_law_question" = some (.ref fa))
    (hrun : ∀ os, os.length = 3 → run os ≠ .bad → fnRun bs__law_question 12 (b__law_question r__law_take r__law_term) os = run os) : FnG P w K mg base (k + 1) "_law_question" bs__law_question run :=
  ⟨fa, fd, p__law_question, fnD F sc__law_question rfl rfl hrun (fun cdv A outer s H vs E hr => d__law_question T G__law_take h__law_take G__law_term h__law_term hr), m, F.kp, F.binds fun _ _ _ _ _ _ us hl => match us, hl with | [_, _, _], _ => rfl⟩
/-! ### _law_code -/
abbrev s__law_code : Stmt := topS 39
abbrev N__law_code : List Str := ["schema", "question", "found", "number", "e"]
abbrev p__law_code : List Str := ["schema", "question"]
theorem sc__law_code : FnScope N__law_code p__law_code (defScope s__law_code) := ⟨rfl, rfl, rfl, by decide +kernel, rfl, by decide +kernel, by decide +kernel⟩
def L1__law_code (r_check_question r_plain_answer r__law_empty : List O → Rs O) : En → Rs Fl := sTry "QuestionError" 4 (sSeq (sIf (eP (pB (pBin eqD (pVar 3) (pC (.int 0))))) (sDo (eP (pCall r_check_question (pCons (pVar 0) (pCons (pVar 1) (pNil)))))) (sDo (eP (pCall r_plain_answer (pCons (pVar 0) (pCons (pCall r__law_empty (pCons (pVar 0) (pNil))) (pCons (pVar 1) (pNil)))))))) (sApp 2 (eP (pC (.str (Str.ofString "fine")))))) (xApp 2 "code")
def b__law_code (r_check_question r_plain_answer r__law_empty : List O → Rs O) : En → Rs Fl := sSeq (sSet 2 (oLst (eP (pNil)))) (sSeq (sFor (eP (pSeq rng1D (pC (.int 2)))) (tgN 3) (L1__law_code r_check_question r_plain_answer r__law_empty)) (sRet (eSh (ePk [2] (pIf (pB (pBin eqD (pBin idxD (pVar 2) (pC (.int 0))) (pBin idxD (pVar 2) (pC (.int 1))))) (pBin idxD (pVar 2) (pC (.int 0))) (pC (.str (Str.ofString "both"))))))))
theorem d__law_code {k : Nat} {k_check_question : Nat} {r_check_question : List O → Rs O} {k_plain_answer : Nat} {r_plain_answer : List O → Rs O} {k__law_empty : Nat} {r__law_empty : List O → Rs O} {fa : Addr} {cdv : Value} {A : Around} {outer : List Env} {s : Shared} {H : Hp} {vs : List V} {E : XK} (T : Tx P w K mg base) (G_check_question : FnG P w K mg base k_check_question "check_question" bs_check_question r_check_question) (h_check_question : k_check_question ≤ k) (G_plain_answer : FnG P w K mg base k_plain_answer "plain_answer" bs_plain_answer r_plain_answer) (h_plain_answer : k_plain_answer ≤ k) (G__law_empty : FnG P w K mg base k__law_empty "_law_empty" bs__law_empty r__law_empty) (h__law_empty : k__law_empty ≤ k) (hr : Room k (A.deeper (envOfC "_law_code" (defScope s__law_code) s.heap.objs.size fa cdv))) :
    PSs (cxOf (L2.CX P w) P w K mg base N__law_code "_law_code" (defScope s__law_code) fa cdv A outer s H E) (defBody s__law_code) (tS ⟨K, mg⟩ (fun c d _ H => E c d H) ⟨bs__law_code, vs⟩ (b__law_code r_check_question r_plain_answer r__law_empty)) :=
  psd_cons (psd_set (i := 2) sc__law_code.nd (by first | exact Or.inl rfl | exact Or.inr rfl) (po_lst (pad_P (pap_nil))) (fun q => nomatch q)) (psd_cons (psd_for (passes_of rfl) rfl (pid_P (pp_I (pid_rng (by rfl) T.n_range (pd_P (pp_int))) dn_rng)) (pgd_name (i := 3) (ix := [3]) sc__law_code.nd (by first | exact Or.inl rfl | exact Or.inr rfl) (fun q => nomatch q) (by decide)) (psd_one (psd_try T.x_QuestionError rfl rfl sc__law_code.nd rfl (by rfl) (takes_of rfl rfl rfl rfl) (fun q => nomatch q) (fun W pn xe tk po => psd_cons (psd_if (ptd_P (ptp_cmp (od_eq hr.units) (pp_var 3) (pp_int) (nomark _))) (psd_one (psd_expr (pd_P (pp_D (pd_fz (po_call G_check_question (hr.mono h_check_question) (by rfl) tk (paa_val (pd_P (pp_var 0)) (paa_val (pd_P (pp_var 1)) (paa_nil))) (aLen_val (aLen_val (aLen_nil))))) (dn_call (dna_val (dna_val (dna_nil)))))))) (psd_one (psd_expr (pd_P (pp_D (pd_fz (po_call G_plain_answer (hr.mono h_plain_answer) (by rfl) tk (paa_val (pd_P (pp_var 0)) (paa_val (pd_P (pp_D (pd_fz (po_call G__law_empty (hr.mono h__law_empty) (by rfl) tk (paa_val (pd_P (pp_var 0)) (paa_nil)) (aLen_val (aLen_nil)))) (dn_call (dna_val (dna_nil))))) (paa_val (pd_P (pp_var 1)) (paa_nil)))) (aLen_val (aLen_val (aLen_val (aLen_nil)))))) (dn_call (dna_val (dna_val (dna_val (dna_nil)))))))))) (psd_one (psd_app 2 (pd_P (pp_str))))) (fun a oe cls d pn hz hf => psx_app T.x_QuestionError hz hf 2)))) (psd_one (psd_ret (po_sh (pd_Pk [2] (pp_if (ptp_cmp (od_eq hr.units) (pp_ix (hu_of hr) (pp_var 2) (pp_int) (fun _ _ => rfl)) (pp_ix (hu_of hr) (pp_var 2) (pp_int) (fun _ _ => rfl)) (nomark _)) (pp_ix (hu_of hr) (pp_var 2) (pp_int) (fun _ _ => rfl)) (pp_str)))))))
theorem g__law_code {k : Nat} {k_check_question : Nat} {r_check_question : List O → Rs O} {k_plain_answer : Nat} {r_plain_answer : List O → Rs O} {k__law_empty : Nat} {r__law_empty : List O → Rs O} {fa : Addr} {fd : FuncData} {run : List O → Rs O} (T : Tx P w K mg base) (G_check_question : FnG P w K mg base k_check_question "check_question" bs_check_question r_check_question) (h_check_question : k_check_question ≤ k) (G_plain_answer : FnG P w K mg base k_plain_answer "plain_answer" bs_plain_answer r_plain_answer) (h_plain_answer : k_plain_answer ≤ k) (G__law_empty : FnG P w K mg base k__law_empty "_law_empty" bs__law_empty r__law_empty) (h__law_empty : k__law_empty ≤ k) (F : Fun K "_law_code" "_law_code" s__law_code fa fd) (m : mg "_law_code" = some (.ref fa))
    (hrun : ∀ os, os.length = 2 → run os ≠ .bad → fnRun bs__law_code 5 (b__law_code r_check_question r_plain_answer r__law_empty) os = run os) : FnG P w K mg base (k + 1) "_law_code" bs__law_code run :=
  ⟨fa, fd, p__law_code, fnD F sc__law_code rfl rfl hrun (fun cdv A outer s H vs E hr => d__law_code T G_check_question h_check_question G_plain_answer h_plain_answer G__law_empty h__law_empty hr), m, F.kp, F.binds fun _ _ _ _ _ _ us hl => match us, hl with | [_, _], _ => rfl⟩
/-! ### _law_empty -/
abbrev s__law_empty : Stmt := topS 40
abbrev N__law_empty : List Str := ["schema", "state", "table"]
abbrev p__law_empty : List Str := ["schema"]
theorem sc__law_empty : FnScope N__law_empty p__law_empty (defScope s__law_empty) := ⟨rfl, rfl, rfl, by decide +kernel, rfl, by decide +kernel, by decide +kernel⟩
def L1__law_empty : En → Rs Fl := sPut 1 (eP (pVar 2)) (eP (pC (.dict [])))
def b__law_empty : En → Rs Fl := sSeq (sSet 1 (oDic0)) (sSeq (sForK (eP (pSeq keysO (pVar 0))) (tgN 2) (L1__law_empty)) (sRet (eSh (eVar 1))))
theorem d__law_empty {k : Nat} {fa : Addr} {cdv : Value} {A : Around} {outer : List Env} {s : Shared} {H : Hp} {vs : List V} {E : XK} (T : Tx P w K mg base) (hr : Room k (A.deeper (envOfC "_law_empty" (defScope s__law_empty) s.heap.objs.size fa cdv))) :
    PSs (cxOf (L2.CX P w) P w K mg base N__law_empty "_law_empty" (defScope s__law_empty) fa cdv A outer s H E) (defBody s__law_empty) (tS ⟨K, mg⟩ (fun c d _ H => E c d H) ⟨bs__law_empty, vs⟩ (b__law_empty)) :=
  psd_cons (psd_set (i := 1) sc__law_empty.nd (by first | exact Or.inl rfl | exact Or.inr rfl) (po_dic0) (fun q => nomatch q)) (psd_cons (psd_forKP (passes_of rfl) rfl (pp_var 0) (pgd_name (i := 2) (ix := [2]) sc__law_empty.nd (by first | exact Or.inl rfl | exact Or.inr rfl) (fun q => nomatch q) (by decide)) (psd_one (psd_put (hu_of hr) 1 (pd_P (pp_var 2)) (pd_P (pp_D (pd_fz po_dic0) (fun _ _ => rfl)))))) (psd_one (psd_ret (po_sh (pd_var 1)))))
theorem g__law_empty {k : Nat} {fa : Addr} {fd : FuncData} {run : List O → Rs O} (T : Tx P w K mg base) (F : Fun K "_law_empty" "_law_empty" s__law_empty fa fd) (m : mg "_law_empty" = some (.ref fa))
    (hrun : ∀ os, os.length = 1 → run os ≠ .bad → fnRun bs__law_empty 3 (b__law_empty) os = run os) : FnG P w K mg base (k + 1) "_law_empty" bs__law_empty run :=
  ⟨fa, fd, p__law_empty, fnD F sc__law_empty rfl rfl hrun (fun cdv A outer s H vs E hr => d__law_empty T hr), m, F.kp, F.binds fun _ _ _ _ _ _ us hl => match us, hl with | [_], _ => rfl⟩
/-! ### _law_with -/
abbrev s__law_with : Stmt := topS 41
abbrev N__law_with : List Str := ["question", "at", "terms", "atoms"]
abbrev p__law_with : List Str := ["question", "at", "terms"]
theorem sc__law_with : FnScope N__law_with p__law_with (defScope s__law_with) := ⟨rfl, rfl, rfl, by decide +kernel, rfl, by decide +kernel, by decide +kernel⟩
def b__law_with : En → Rs Fl := sSeq (sSet 3 (oList (eP (pBin idxD (pVar 0) (pC (.int 1)))))) (sSeq (sLput 3 (eP (pVar 1)) (ePk [3] (pAll tupD (pCons (pBin idxD (pBin idxD (pVar 3) (pVar 1)) (pC (.int 0))) (pCons (pVar 2) (pNil)))))) (sRet (eSh (ePk [3] (pAll tupD (pCons (pBin idxD (pVar 0) (pC (.int 0))) (pCons (pAll tupOfD (pCons (pVar 3) (pNil))) (pNil))))))))
theorem d__law_with {k : Nat} {fa : Addr} {cdv : Value} {A : Around} {outer : List Env} {s : Shared} {H : Hp} {vs : List V} {E : XK} (T : Tx P w K mg base) (hr : Room k (A.deeper (envOfC "_law_with" (defScope s__law_with) s.heap.objs.size fa cdv))) :
    PSs (cxOf (L2.CX P w) P w K mg base N__law_with "_law_with" (defScope s__law_with) fa cdv A outer s H E) (defBody s__law_with) (tS ⟨K, mg⟩ (fun c d _ H => E c d H) ⟨bs__law_with, vs⟩ (b__law_with)) :=
  psd_cons (psd_set (i := 3) sc__law_with.nd (by first | exact Or.inl rfl | exact Or.inr rfl) (po_list (by rfl) T.n_list (by decide +kernel) (pd_P (pp_ix (hu_of hr) (pp_var 0) (pp_int) (fun _ _ => rfl)))) (fun q => nomatch q)) (psd_cons (psd_lput 3 (pd_P (pp_var 1)) (pd_Pk [3] (pp_tup (pap_cons (pp_ix (hu_of hr) (pp_ix (hu_of hr) (pp_var 3) (pp_var 1) (fun _ _ => rfl)) (pp_int) (fun _ _ => rfl)) (pap_cons (pp_var 2) (pap_nil)))))) (psd_one (psd_ret (po_sh (pd_Pk [3] (pp_tup (pap_cons (pp_ix (hu_of hr) (pp_var 0) (pp_int) (fun _ _ => rfl)) (pap_cons (pp_D (pd_callTy cd_tuple (by rfl) T.n_tuple (by decide +kernel) (pad_P (pap_cons (pp_var 3) (pap_nil)))) dn_all) (pap_nil)))))))))
theorem g__law_with {k : Nat} {fa : Addr} {fd : FuncData} {run : List O → Rs O} (T : Tx P w K mg base) (F : Fun K "_law_with" "_law_with" s__law_with fa fd) (m : mg "_law_with" = some (.ref fa))
    (hrun : ∀ os, os.length = 3 → run os ≠ .bad → fnRun bs__law_with 4 (b__law_with) os = run os) : FnG P w K mg base (k + 1) "_law_with" bs__law_with run :=
  ⟨fa, fd, p__law_with, fnD F sc__law_with rfl rfl hrun (fun cdv A outer s H vs E hr => d__law_with T hr), m, F.kp, F.binds fun _ _ _ _ _ _ us hl => match us, hl with | [_, _, _], _ => rfl⟩
/-! ### _law_faulty -/
abbrev s__law_faulty : Stmt := topS 42
abbrev N__law_faulty : List Str := ["tape", "schema", "question", "kind", "at", "table", "terms", "wrong", "atoms", "kind_of_v", "bad", "one"]
abbrev p__law_faulty : List Str := ["tape", "schema", "question", "kind"]
theorem sc__law_faulty : FnScope N__law_faulty p__law_faulty (defScope s__law_faulty) := ⟨rfl, rfl, rfl, by decide +kernel, rfl, by decide +kernel, by decide +kernel⟩
def b__law_faulty (r__law_take r__law_with : List O → Rs O) : En → Rs Fl := sSeq (sSet 4 (eSh (eFz (eCallU r__law_take (aBor 0 (aVal (eP (pAll lenD (pCons (pBin idxD (pVar 2) (pC (.int 1))) (pNil)))) (aNil))))))) (sSeq (sAsg (eP (pBin idxD (pBin idxD (pVar 2) (pC (.int 1))) (pVar 4))) (tgT 2 [tgN 5, tgN 6])) (sSeq (sIf (eP (pB (pBin eqD (pVar 3) (pC (.str (Str.ofString "size")))))) (sSeq (sSet 7 (eSh (eP (pAll lstD (pCons (pAll tupD (pCons (pBin idxD (pVar 2) (pC (.int 0))) (pCons (pAll tupD (pNil)) (pNil)))) (pCons (pAll tupD (pCons (pBin idxD (pVar 2) (pC (.int 0))) (pCons (pBin repTD2 (pSl (pBin idxD (pVar 2) (pC (.int 1))) (pPart0) (pPart (pC (.int 1)))) (pC (.int 7))) (pNil)))) (pCons (pAll tupD (pCons (pBin repTD2 (pSl (pBin idxD (pVar 2) (pC (.int 0))) (pPart0) (pPart (pC (.int 1)))) (pC (.int 5))) (pCons (pBin idxD (pVar 2) (pC (.int 1))) (pNil)))) (pNil)))))))) (sRet (eSh (eSub 7 (eFz (eCallU r__law_take (aBor 0 (aVal (eP (pIf (pB (pBin eqD (pBin idxD (pVar 2) (pC (.int 0))) (pAll tupD (pNil)))) (pC (.int 2)) (pC (.int 3)))) (aNil))))))))) (sNext)) (sSeq (sIf (eP (pB (pBin eqD (pVar 3) (pC (.str (Str.ofString "table")))))) (sSeq (sSet 8 (oList (eP (pBin idxD (pVar 2) (pC (.int 1)))))) (sSeq (sLput 8 (eP (pVar 4)) (eP (pAll tupD (pCons (pC (.str (Str.ofString "none"))) (pCons (pVar 6) (pNil)))))) (sRet (eSh (ePk [8] (pAll tupD (pCons (pBin idxD (pVar 2) (pC (.int 0))) (pCons (pAll tupOfD (pCons (pVar 8) (pNil))) (pNil))))))))) (sNext)) (sSeq (sIf (eP (pB (pBin eqD (pVar 3) (pC (.str (Str.ofString "terms")))))) (sSeq (sSet 9 (eSh (eP (pBin idxD (pBin idxD (pBin idxD (pBin idxD (pVar 1) (pVar 5)) (pC (.str (Str.ofString "columns")))) (pC (.int 0))) (pC (.int 1)))))) (sSeq (sSet 10 (eSh (eP (pAll lstD (pCons (pAll tupD (pCons (pC (.str (Str.ofString "is"))) (pCons (pIf (pB (pBin eqD (pVar 9) (pC (.str (Str.ofString "int"))))) (pC (.str (Str.ofString "x"))) (pC (.int 1))) (pNil)))) (pCons (pAll tupD (pCons (pC (.str (Str.ofString "is"))) (pCons (pC .none) (pNil)))) (pCons (pAll tupD (pCons (pC (.str (Str.ofString "var"))) (pCons (pC (.str (Str.ofString ""))) (pNil)))) (pCons (pAll tupD (pCons (pC (.str (Str.ofString "var"))) (pCons (pC (.str (Str.ofString "A"))) (pNil)))) (pCons (pAll tupD (pCons (pC (.str (Str.ofString "var"))) (pCons (pC (.str (Str.ofString "a1"))) (pNil)))) (pCons (pC .none) (pNil))))))))))) (sSeq (sSet 7 (eSh (eP (pBin addD (pAll lstD (pCons (pBin addD (pVar 6) (pAll tupD (pCons (pC .none) (pNil)))) (pCons (pSl (pVar 6) (pPart0) (pPart (pUn negD (pC (.int 1))))) (pNil)))) (pComp (pSeq itemsD (pVar 10)) (tgN 11) [11] (fun _ => .ok true) (pBin addD (pAll tupD (pCons (pVar 11) (pNil))) (pSl (pVar 6) (pPart (pC (.int 1))) (pPart0)))))))) (sRet (eSh (eFz (eCallU r__law_with (aVal (eP (pVar 2)) (aVal (eP (pVar 4)) (aVal (eSub 7 (eFz (eCallU r__law_take (aBor 0 (aVal (eP (pC (.int 8))) (aNil)))))) (aNil))))))))))) (sNext)) (sSeq (sIf (eP (pB (pBin eqD (pVar 3) (pC (.str (Str.ofString "head")))))) (sRet (eSh (eP (pAll tupD (pCons (pBin addD (pSl (pBin idxD (pVar 2) (pC (.int 0))) (pPart0) (pPart (pC (.int 3)))) (pAll tupD (pCons (pC (.str (Str.ofString "nowhere"))) (pNil)))) (pCons (pBin idxD (pVar 2) (pC (.int 1))) (pNil))))))) (sNext)) (sRet (eSh (eP (pVar 2)))))))))
theorem d__law_faulty {k : Nat} {k__law_take : Nat} {r__law_take : List O → Rs O} {k__law_with : Nat} {r__law_with : List O → Rs O} {fa : Addr} {cdv : Value} {A : Around} {outer : List Env} {s : Shared} {H : Hp} {vs : List V} {E : XK} (T : Tx P w K mg base) (G__law_take : FnG P w K mg base k__law_take "_law_take" bs__law_take r__law_take) (h__law_take : k__law_take ≤ k) (G__law_with : FnG P w K mg base k__law_with "_law_with" bs__law_with r__law_with) (h__law_with : k__law_with ≤ k) (hr : Room k (A.deeper (envOfC "_law_faulty" (defScope s__law_faulty) s.heap.objs.size fa cdv))) :
    PSs (cxOf (L2.CX P w) P w K mg base N__law_faulty "_law_faulty" (defScope s__law_faulty) fa cdv A outer s H E) (defBody s__law_faulty) (tS ⟨K, mg⟩ (fun c d _ H => E c d H) ⟨bs__law_faulty, vs⟩ (b__law_faulty r__law_take r__law_with)) :=
  psd_cons (psd_set (i := 4) sc__law_faulty.nd (by first | exact Or.inl rfl | exact Or.inr rfl) (po_sh (pd_fz (po_call G__law_take (hr.mono h__law_take) (by rfl) (takes_of rfl rfl rfl rfl) (paa_bor 0 (paa_val (pd_P (pp_D (pd_callB cd_len (by rfl) T.n_len (by decide +kernel) (pad_P (pap_cons (pp_ix (hu_of hr) (pp_var 2) (pp_int) (fun _ _ => rfl)) (pap_nil)))) dn_all)) (paa_nil))) (aLen_bor (aLen_val (aLen_nil)))))) (fun q => nomatch q)) (psd_cons (psd_asg (pd_P (pp_ix (hu_of hr) (pp_ix (hu_of hr) (pp_var 2) (pp_int) (fun _ _ => rfl)) (pp_var 4) (fun _ _ => rfl))) (pgd_tup rfl (pgsd_cons (pgd_name (i := 5) (ix := [5, 6]) sc__law_faulty.nd (by first | exact Or.inl rfl | exact Or.inr rfl) (fun q => nomatch q) (by decide)) (pgsd_cons (pgd_name (i := 6) (ix := [5, 6]) sc__law_faulty.nd (by first | exact Or.inl rfl | exact Or.inr rfl) (fun q => nomatch q) (by decide)) (pgsd_nil))))) (psd_cons (psd_if (ptd_P (ptp_cmp (od_eq hr.units) (pp_var 3) (pp_str) (nomark _))) (psd_cons (psd_set (i := 7) sc__law_faulty.nd (by first | exact Or.inl rfl | exact Or.inr rfl) (po_sh (pd_P (pp_lst (pap_cons (pp_tup (pap_cons (pp_ix (hu_of hr) (pp_var 2) (pp_int) (fun _ _ => rfl)) (pap_cons (pp_tup (pap_nil)) (pap_nil)))) (pap_cons (pp_tup (pap_cons (pp_ix (hu_of hr) (pp_var 2) (pp_int) (fun _ _ => rfl)) (pap_cons (pp_bin od_repT2 (pp_sl (pp_ix (hu_of hr) (pp_var 2) (pp_int) (fun _ _ => rfl)) (pop_none) (pop_some (pp_int))) (pp_int)) (pap_nil)))) (pap_cons (pp_tup (pap_cons (pp_bin od_repT2 (pp_sl (pp_ix (hu_of hr) (pp_var 2) (pp_int) (fun _ _ => rfl)) (pop_none) (pop_some (pp_int))) (pp_int)) (pap_cons (pp_ix (hu_of hr) (pp_var 2) (pp_int) (fun _ _ => rfl)) (pap_nil)))) (pap_nil))))))) (fun q => nomatch q)) (psd_one (psd_ret (po_sh (pd_sub (hu_of hr) 7 (pd_fz (po_call G__law_take (hr.mono h__law_take) (by rfl) (takes_of rfl rfl rfl rfl) (paa_bor 0 (paa_val (pd_P (pp_if (ptp_cmp (od_eq hr.units) (pp_ix (hu_of hr) (pp_var 2) (pp_int) (fun _ _ => rfl)) (pp_tup (pap_nil)) (nomark _)) (pp_int) (pp_int))) (paa_nil))) (aLen_bor (aLen_val (aLen_nil))))) (fun _ _ => rfl)))))) (psd_nil)) (psd_cons (psd_if (ptd_P (ptp_cmp (od_eq hr.units) (pp_var 3) (pp_str) (nomark _))) (psd_cons (psd_set (i := 8) sc__law_faulty.nd (by first | exact Or.inl rfl | exact Or.inr rfl) (po_list (by rfl) T.n_list (by decide +kernel) (pd_P (pp_ix (hu_of hr) (pp_var 2) (pp_int) (fun _ _ => rfl)))) (fun q => nomatch q)) (psd_cons (psd_lput 8 (pd_P (pp_var 4)) (pd_P (pp_tup (pap_cons (pp_str) (pap_cons (pp_var 6) (pap_nil)))))) (psd_one (psd_ret (po_sh (pd_Pk [8] (pp_tup (pap_cons (pp_ix (hu_of hr) (pp_var 2) (pp_int) (fun _ _ => rfl)) (pap_cons (pp_D (pd_callTy cd_tuple (by rfl) T.n_tuple (by decide +kernel) (pad_P (pap_cons (pp_var 8) (pap_nil)))) dn_all) (pap_nil)))))))))) (psd_nil)) (psd_cons (psd_if (ptd_P (ptp_cmp (od_eq hr.units) (pp_var 3) (pp_str) (nomark _))) (psd_cons (psd_set (i := 9) sc__law_faulty.nd (by first | exact Or.inl rfl | exact Or.inr rfl) (po_sh (pd_P (pp_ix (hu_of hr) (pp_ix (hu_of hr) (pp_ix (hu_of hr) (pp_ix (hu_of hr) (pp_var 1) (pp_var 5) (fun _ _ => rfl)) (pp_str) (fun _ _ => rfl)) (pp_int) (fun _ _ => rfl)) (pp_int) (fun _ _ => rfl)))) (fun q => nomatch q)) (psd_cons (psd_set (i := 10) sc__law_faulty.nd (by first | exact Or.inl rfl | exact Or.inr rfl) (po_sh (pd_P (pp_lst (pap_cons (pp_tup (pap_cons (pp_str) (pap_cons (pp_if (ptp_cmp (od_eq hr.units) (pp_var 9) (pp_str) (nomark _)) (pp_str) (pp_int)) (pap_nil)))) (pap_cons (pp_tup (pap_cons (pp_str) (pap_cons (pp_non) (pap_nil)))) (pap_cons (pp_tup (pap_cons (pp_str) (pap_cons (pp_str) (pap_nil)))) (pap_cons (pp_tup (pap_cons (pp_str) (pap_cons (pp_str) (pap_nil)))) (pap_cons (pp_tup (pap_cons (pp_str) (pap_cons (pp_str) (pap_nil)))) (pap_cons (pp_non) (pap_nil)))))))))) (fun q => nomatch q)) (psd_cons (psd_set (i := 7) sc__law_faulty.nd (by first | exact Or.inl rfl | exact Or.inr rfl) (po_sh (pd_P (pp_bin od_add (pp_lst (pap_cons (pp_bin od_add (pp_var 6) (pp_tup (pap_cons (pp_non) (pap_nil)))) (pap_cons (pp_sl (pp_var 6) (pop_none) (pop_some (pp_un ud_neg (pp_int)))) (pap_nil)))) (pp_D (pd_fz (po_comp (own := [("one", 11)]) rfl sc__law_faulty.nd (pid_P (pp_I (pid_seq (pd_P (pp_var 10))) dn_seq)) (blkOk_by (own := [("one", 11)]) (N := N__law_faulty) (sc := defScope s__law_faulty) (by decide +kernel)) (fun _ _ _ _ _ => pgd_name (i := 11) (ix := [11]) sc__law_faulty.nd (by first | exact Or.inl rfl | exact Or.inr rfl) (fun q => nomatch q) (by decide)) (fun _ _ _ _ _ => ptsd_nilP) (fun _ _ _ _ _ => pd_P (pp_bin od_add (pp_tup (pap_cons (pp_var 11) (pap_nil))) (pp_sl (pp_var 6) (pop_some (pp_int)) (pop_none)))))) (dn_comp (tgs_N (by decide))))))) (fun q => nomatch q)) (psd_one (psd_ret (po_sh (pd_fz (po_call G__law_with (hr.mono h__law_with) (by rfl) (takes_of rfl rfl rfl rfl) (paa_val (pd_P (pp_var 2)) (paa_val (pd_P (pp_var 4)) (paa_val (pd_sub (hu_of hr) 7 (pd_fz (po_call G__law_take (hr.mono h__law_take) (by rfl) (takes_of rfl rfl rfl rfl) (paa_bor 0 (paa_val (pd_P (pp_int)) (paa_nil))) (aLen_bor (aLen_val (aLen_nil))))) (fun _ _ => rfl)) (paa_nil)))) (aLen_val (aLen_val (aLen_val (aLen_nil)))))))))))) (psd_nil)) (psd_cons (psd_if (ptd_P (ptp_cmp (od_eq hr.units) (pp_var 3) (pp_str) (nomark _))) (psd_one (psd_ret (po_sh (pd_P (pp_tup (pap_cons (pp_bin od_add (pp_sl (pp_ix (hu_of hr) (pp_var 2) (pp_int) (fun _ _ => rfl)) (pop_none) (pop_some (pp_int))) (pp_tup (pap_cons (pp_str) (pap_nil)))) (pap_cons (pp_ix (hu_of hr) (pp_var 2) (pp_int) (fun _ _ => rfl)) (pap_nil)))))))) (psd_nil)) (psd_one (psd_ret (po_sh (pd_P (pp_var 2))))))))))
theorem g__law_faulty {k : Nat} {k__law_take : Nat} {r__law_take : List O → Rs O} {k__law_with : Nat} {r__law_with : List O → Rs O} {fa : Addr} {fd : FuncData} {run : List O → Rs O} (T : Tx P w K mg base) (G__law_take : FnG P w K mg base k__law_take "_law_take" bs__law_take r__law_take) (h__law_take : k__law_take ≤ k) (G__law_with : FnG P w K mg base k__law_with "_law_with" bs__law_with r__law_with) (h__law_with : k__law_with ≤ k) (F : Fun K "_law_faulty" "_law_faulty" s__law_faulty fa fd) (m : mg "_law_faulty" = some (.ref fa))
    (hrun : ∀ os, os.length = 4 → run os ≠ .bad → fnRun bs__law_faulty 12 (b__law_faulty r__law_take r__law_with) os = run os) : FnG P w K mg base (k + 1) "_law_faulty" bs__law_faulty run :=
  ⟨fa, fd, p__law_faulty, fnD F sc__law_faulty rfl rfl hrun (fun cdv A outer s H vs E hr => d__law_faulty T G__law_take h__law_take G__law_with h__law_with hr), m, F.kp, F.binds fun _ _ _ _ _ _ us hl => match us, hl with | [_, _, _, _], _ => rfl⟩
/-! ### law -/
abbrev s_law : Stmt := topS 43
abbrev N_law : List Str := ["script", "tape", "schema", "question", "order", "one", "two", "both", "pair", "mixed"]
abbrev p_law : List Str := ["script"]
theorem sc_law : FnScope N_law p_law (defScope s_law) := ⟨rfl, rfl, rfl, by decide +kernel, rfl, by decide +kernel, by decide +kernel⟩
def b_law (r__law_tape r__law_plain_schema r__law_question r__law_code r__law_take r__law_faulty : List O → Rs O) : En → Rs Fl := sSeq (sSet 1 (eCallU r__law_tape (aBor 0 (aNil)))) (sSeq (sSet 2 (eSh (eFz (eCallU r__law_plain_schema (aBor 1 (aNil)))))) (sSeq (sSet 3 (eSh (eFz (eCallU r__law_question (aBor 1 (aVal (eP (pVar 2)) (aVal (eP (pC (.int 4))) (aNil)))))))) (sSeq (sIf (eP (pB (pBin neD (pCall r__law_code (pCons (pVar 2) (pCons (pVar 3) (pNil)))) (pC (.str (Str.ofString "fine")))))) (sRet (eSh (eP (pC (.bool false))))) (sNext)) (sSeq (sSet 4 (eSh (eP (pAll lstD (pCons (pC (.str (Str.ofString "size"))) (pCons (pC (.str (Str.ofString "table"))) (pCons (pC (.str (Str.ofString "terms"))) (pCons (pC (.str (Str.ofString "head"))) (pNil))))))))) (sSeq (sPar 5 6 (eCons (eFz (eCallU r__law_take (aBor 1 (aVal (eP (pC (.int 4))) (aNil))))) (eCons (eFz (eCallU r__law_take (aBor 1 (aVal (eP (pC (.int 4))) (aNil))))) (eNil)))) (sSeq (sIf (eB (eBin neD (eFz (eCallU r__law_code (aVal (eP (pVar 2)) (aVal (eFz (eCallU r__law_faulty (aBor 1 (aVal (eP (pVar 2)) (aVal (eP (pVar 3)) (aVal (eP (pBin idxD (pVar 4) (pVar 5))) (aNil))))))) (aNil))))) (eP (pBin idxD (pVar 4) (pVar 5))))) (sRet (eSh (eP (pC (.bool false))))) (sNext)) (sSeq (sIf (eP (pAnd (pB (pBin ltD (pVar 5) (pVar 6))) (pB (pBin neD (pBin idxD (pVar 4) (pVar 5)) (pC (.str (Str.ofString "size"))))))) (sSeq (sSet 7 (eSh (eFz (eCallU r__law_faulty (aBor 1 (aVal (eP (pVar 2)) (aVal (eFz (eCallU r__law_faulty (aBor 1 (aVal (eP (pVar 2)) (aVal (eP (pVar 3)) (aVal (eP (pBin idxD (pVar 4) (pVar 6))) (aNil))))))) (aVal (eP (pBin idxD (pVar 4) (pVar 5))) (aNil))))))))) (sIf (eP (pB (pBin ninOp (pCall r__law_code (pCons (pVar 2) (pCons (pVar 7) (pNil)))) (pAll tupD (pCons (pBin idxD (pVar 4) (pVar 5)) (pCons (pBin idxD (pVar 4) (pVar 6)) (pNil))))))) (sRet (eSh (eP (pC (.bool false))))) (sNext))) (sNext)) (sSeq (sSet 8 (eSh (eP (pDic [(pC (.str (Str.ofString "n")), pDic [(pC (.str (Str.ofString "columns")), pAll lstD (pCons (pAll tupD (pCons (pC (.str (Str.ofString "id"))) (pCons (pC (.str (Str.ofString "int"))) (pCons (pC (.bool false)) (pNil))))) (pCons (pAll tupD (pCons (pC (.str (Str.ofString "t"))) (pCons (pC (.str (Str.ofString "text"))) (pCons (pC (.bool true)) (pNil))))) (pNil)))), (pC (.str (Str.ofString "checks")), pAll lstD (pNil)), (pC (.str (Str.ofString "uniques")), pAll lstD (pNil)), (pC (.str (Str.ofString "references")), pAll lstD (pNil))])])))) (sSeq (sSet 9 (eSh (eAll tupD (eCons (eSl (eP (pAll lstD (pCons (pC (.str (Str.ofString "nowhere"))) (pNil)))) (ret none) (ePart (eFz (eCallU r__law_take (aBor 1 (aVal (eP (pC (.int 2))) (aNil))))))) (eCons (eP (pAll tupD (pCons (pAll tupD (pCons (pC (.str (Str.ofString "n"))) (pCons (pAll tupD (pCons (pAll tupD (pCons (pC (.str (Str.ofString "var"))) (pCons (pC (.str (Str.ofString "a"))) (pNil)))) (pCons (pAll tupD (pCons (pC (.str (Str.ofString "var"))) (pCons (pC (.str (Str.ofString "a"))) (pNil)))) (pNil)))) (pNil)))) (pNil)))) (eNil)))))) (sRet (eSh (eP (pBin eqD (pCall r__law_code (pCons (pVar 8) (pCons (pAll tupD (pCons (pAll tupOfD (pCons (pBin idxD (pVar 9) (pC (.int 0))) (pNil))) (pCons (pBin idxD (pVar 9) (pC (.int 1))) (pNil)))) (pNil)))) (pC (.str (Str.ofString "kind"))))))))))))))))
theorem d_law {k : Nat} {k__law_tape : Nat} {r__law_tape : List O → Rs O} {k__law_plain_schema : Nat} {r__law_plain_schema : List O → Rs O} {k__law_question : Nat} {r__law_question : List O → Rs O} {k__law_code : Nat} {r__law_code : List O → Rs O} {k__law_take : Nat} {r__law_take : List O → Rs O} {k__law_faulty : Nat} {r__law_faulty : List O → Rs O} {fa : Addr} {cdv : Value} {A : Around} {outer : List Env} {s : Shared} {H : Hp} {vs : List V} {E : XK} (T : Tx P w K mg base) (G__law_tape : FnG P w K mg base k__law_tape "_law_tape" bs__law_tape r__law_tape) (h__law_tape : k__law_tape ≤ k) (G__law_plain_schema : FnG P w K mg base k__law_plain_schema "_law_plain_schema" bs__law_plain_schema r__law_plain_schema) (h__law_plain_schema : k__law_plain_schema ≤ k) (G__law_question : FnG P w K mg base k__law_question "_law_question" bs__law_question r__law_question) (h__law_question : k__law_question ≤ k) (G__law_code : FnG P w K mg base k__law_code "_law_code" bs__law_code r__law_code) (h__law_code : k__law_code ≤ k) (G__law_take : FnG P w K mg base k__law_take "_law_take" bs__law_take r__law_take) (h__law_take : k__law_take ≤ k) (G__law_faulty : FnG P w K mg base k__law_faulty "_law_faulty" bs__law_faulty r__law_faulty) (h__law_faulty : k__law_faulty ≤ k) (hr : Room k (A.deeper (envOfC "law" (defScope s_law) s.heap.objs.size fa cdv))) :
    PSs (cxOf (L2.CX P w) P w K mg base N_law "law" (defScope s_law) fa cdv A outer s H E) (defBody s_law) (tS ⟨K, mg⟩ (fun c d _ H => E c d H) ⟨bs_law, vs⟩ (b_law r__law_tape r__law_plain_schema r__law_question r__law_code r__law_take r__law_faulty)) :=
  psd_cons (psd_set (i := 1) sc_law.nd (by first | exact Or.inl rfl | exact Or.inr rfl) (po_call G__law_tape (hr.mono h__law_tape) (by rfl) (takes_of rfl rfl rfl rfl) (paa_bor 0 (paa_nil)) (aLen_bor (aLen_nil))) (fun q => nomatch q)) (psd_cons (psd_set (i := 2) sc_law.nd (by first | exact Or.inl rfl | exact Or.inr rfl) (po_sh (pd_fz (po_call G__law_plain_schema (hr.mono h__law_plain_schema) (by rfl) (takes_of rfl rfl rfl rfl) (paa_bor 1 (paa_nil)) (aLen_bor (aLen_nil))))) (fun q => nomatch q)) (psd_cons (psd_set (i := 3) sc_law.nd (by first | exact Or.inl rfl | exact Or.inr rfl) (po_sh (pd_fz (po_call G__law_question (hr.mono h__law_question) (by rfl) (takes_of rfl rfl rfl rfl) (paa_bor 1 (paa_val (pd_P (pp_var 2)) (paa_val (pd_P (pp_int)) (paa_nil)))) (aLen_bor (aLen_val (aLen_val (aLen_nil))))))) (fun q => nomatch q)) (psd_cons (psd_if (ptd_P (ptp_cmp (od_ne hr.units) (pp_D (pd_fz (po_call G__law_code (hr.mono h__law_code) (by rfl) (takes_of rfl rfl rfl rfl) (paa_val (pd_P (pp_var 2)) (paa_val (pd_P (pp_var 3)) (paa_nil))) (aLen_val (aLen_val (aLen_nil))))) (dn_call (dna_val (dna_val (dna_nil))))) (pp_str) (nomark _))) (psd_one (psd_ret (po_sh (pd_P (pp_bl))))) (psd_nil)) (psd_cons (psd_set (i := 4) sc_law.nd (by first | exact Or.inl rfl | exact Or.inr rfl) (po_sh (pd_P (pp_lst (pap_cons (pp_str) (pap_cons (pp_str) (pap_cons (pp_str) (pap_cons (pp_str) (pap_nil)))))))) (fun q => nomatch q)) (psd_cons (psd_par rfl sc_law.nd rfl rfl (by decide) rfl rfl (pad_cons (pd_fz (po_call G__law_take (hr.mono h__law_take) (by rfl) (takes_of rfl rfl rfl rfl) (paa_bor 1 (paa_val (pd_P (pp_int)) (paa_nil))) (aLen_bor (aLen_val (aLen_nil))))) (pad_cons (pd_fz (po_call G__law_take (hr.mono h__law_take) (by rfl) (takes_of rfl rfl rfl rfl) (paa_bor 1 (paa_val (pd_P (pp_int)) (paa_nil))) (aLen_bor (aLen_val (aLen_nil))))) (pad_nil))) (fun q => nomatch q) (fun q => nomatch q) (by rfl)) (psd_cons (psd_if (ptd_cmp (od_ne hr.units) (pd_fz (po_call G__law_code (hr.mono h__law_code) (by rfl) (takes_of rfl rfl rfl rfl) (paa_val (pd_P (pp_var 2)) (paa_val (pd_fz (po_call G__law_faulty (hr.mono h__law_faulty) (by rfl) (takes_of rfl rfl rfl rfl) (paa_bor 1 (paa_val (pd_P (pp_var 2)) (paa_val (pd_P (pp_var 3)) (paa_val (pd_P (pp_ix (hu_of hr) (pp_var 4) (pp_var 5) (fun _ _ => rfl))) (paa_nil))))) (aLen_bor (aLen_val (aLen_val (aLen_val (aLen_nil))))))) (paa_nil))) (aLen_val (aLen_val (aLen_nil))))) (pd_P (pp_ix (hu_of hr) (pp_var 4) (pp_var 5) (fun _ _ => rfl))) (nomark _)) (psd_one (psd_ret (po_sh (pd_P (pp_bl))))) (psd_nil)) (psd_cons (psd_if (ptd_P (PW.pt (pwp_and (ptp_cmp od_lt (pp_var 5) (pp_var 6) (nomark _)) (pwp_and1 (ptp_cmp (od_ne hr.units) (pp_ix (hu_of hr) (pp_var 4) (pp_var 5) (fun _ _ => rfl)) (pp_str) (nomark _)))))) (psd_cons (psd_set (i := 7) sc_law.nd (by first | exact Or.inl rfl | exact Or.inr rfl) (po_sh (pd_fz (po_call G__law_faulty (hr.mono h__law_faulty) (by rfl) (takes_of rfl rfl rfl rfl) (paa_bor 1 (paa_val (pd_P (pp_var 2)) (paa_val (pd_fz (po_call G__law_faulty (hr.mono h__law_faulty) (by rfl) (takes_of rfl rfl rfl rfl) (paa_bor 1 (paa_val (pd_P (pp_var 2)) (paa_val (pd_P (pp_var 3)) (paa_val (pd_P (pp_ix (hu_of hr) (pp_var 4) (pp_var 6) (fun _ _ => rfl))) (paa_nil))))) (aLen_bor (aLen_val (aLen_val (aLen_val (aLen_nil))))))) (paa_val (pd_P (pp_ix (hu_of hr) (pp_var 4) (pp_var 5) (fun _ _ => rfl))) (paa_nil))))) (aLen_bor (aLen_val (aLen_val (aLen_val (aLen_nil)))))))) (fun q => nomatch q)) (psd_one (psd_if (ptd_P (ptp_cmp (od_notIn (hu_of hr)) (pp_D (pd_fz (po_call G__law_code (hr.mono h__law_code) (by rfl) (takes_of rfl rfl rfl rfl) (paa_val (pd_P (pp_var 2)) (paa_val (pd_P (pp_var 7)) (paa_nil))) (aLen_val (aLen_val (aLen_nil))))) (dn_call (dna_val (dna_val (dna_nil))))) (pp_tup (pap_cons (pp_ix (hu_of hr) (pp_var 4) (pp_var 5) (fun _ _ => rfl)) (pap_cons (pp_ix (hu_of hr) (pp_var 4) (pp_var 6) (fun _ _ => rfl)) (pap_nil)))) (by rfl))) (psd_one (psd_ret (po_sh (pd_P (pp_bl))))) (psd_nil)))) (psd_nil)) (psd_cons (psd_set (i := 8) sc_law.nd (by first | exact Or.inl rfl | exact Or.inr rfl) (po_sh (pd_P (pp_D (pd_fz (po_dic (ps := [(eP (pC (.str (Str.ofString "n"))), eP (pDic [(pC (.str (Str.ofString "columns")), pAll lstD (pCons (pAll tupD (pCons (pC (.str (Str.ofString "id"))) (pCons (pC (.str (Str.ofString "int"))) (pCons (pC (.bool false)) (pNil))))) (pCons (pAll tupD (pCons (pC (.str (Str.ofString "t"))) (pCons (pC (.str (Str.ofString "text"))) (pCons (pC (.bool true)) (pNil))))) (pNil)))), (pC (.str (Str.ofString "checks")), pAll lstD (pNil)), (pC (.str (Str.ofString "uniques")), pAll lstD (pNil)), (pC (.str (Str.ofString "references")), pAll lstD (pNil))]))]) (pps_cons (pd_P (pp_str)) (pd_P (pp_D (pd_fz (po_dic (ps := [(eP (pC (.str (Str.ofString "columns"))), eP (pAll lstD (pCons (pAll tupD (pCons (pC (.str (Str.ofString "id"))) (pCons (pC (.str (Str.ofString "int"))) (pCons (pC (.bool false)) (pNil))))) (pCons (pAll tupD (pCons (pC (.str (Str.ofString "t"))) (pCons (pC (.str (Str.ofString "text"))) (pCons (pC (.bool true)) (pNil))))) (pNil))))), (eP (pC (.str (Str.ofString "checks"))), eP (pAll lstD (pNil))), (eP (pC (.str (Str.ofString "uniques"))), eP (pAll lstD (pNil))), (eP (pC (.str (Str.ofString "references"))), eP (pAll lstD (pNil)))]) (pps_cons (pd_P (pp_str)) (pd_P (pp_lst (pap_cons (pp_tup (pap_cons (pp_str) (pap_cons (pp_str) (pap_cons (pp_bl) (pap_nil))))) (pap_cons (pp_tup (pap_cons (pp_str) (pap_cons (pp_str) (pap_cons (pp_bl) (pap_nil))))) (pap_nil))))) (pps_cons (pd_P (pp_str)) (pd_P (pp_lst (pap_nil))) (pps_cons (pd_P (pp_str)) (pd_P (pp_lst (pap_nil))) (pps_cons (pd_P (pp_str)) (pd_P (pp_lst (pap_nil))) (pps_nil))))))) (dn_dic (ps := [(pC (.str (Str.ofString "columns")), pAll lstD (pCons (pAll tupD (pCons (pC (.str (Str.ofString "id"))) (pCons (pC (.str (Str.ofString "int"))) (pCons (pC (.bool false)) (pNil))))) (pCons (pAll tupD (pCons (pC (.str (Str.ofString "t"))) (pCons (pC (.str (Str.ofString "text"))) (pCons (pC (.bool true)) (pNil))))) (pNil)))), (pC (.str (Str.ofString "checks")), pAll lstD (pNil)), (pC (.str (Str.ofString "uniques")), pAll lstD (pNil)), (pC (.str (Str.ofString "references")), pAll lstD (pNil))])))) (pps_nil)))) (dn_dic (ps := [(pC (.str (Str.ofString "n")), pDic [(pC (.str (Str.ofString "columns")), pAll lstD (pCons (pAll tupD (pCons (pC (.str (Str.ofString "id"))) (pCons (pC (.str (Str.ofString "int"))) (pCons (pC (.bool false)) (pNil))))) (pCons (pAll tupD (pCons (pC (.str (Str.ofString "t"))) (pCons (pC (.str (Str.ofString "text"))) (pCons (pC (.bool true)) (pNil))))) (pNil)))), (pC (.str (Str.ofString "checks")), pAll lstD (pNil)), (pC (.str (Str.ofString "uniques")), pAll lstD (pNil)), (pC (.str (Str.ofString "references")), pAll lstD (pNil))])]))))) (fun q => nomatch q)) (psd_cons (psd_set (i := 9) sc_law.nd (by first | exact Or.inl rfl | exact Or.inr rfl) (po_sh (pd_tup (pad_cons (pd_sl (pd_P (pp_lst (pap_cons (pp_str) (pap_nil)))) (pod_none) (pod_some (pd_fz (po_call G__law_take (hr.mono h__law_take) (by rfl) (takes_of rfl rfl rfl rfl) (paa_bor 1 (paa_val (pd_P (pp_int)) (paa_nil))) (aLen_bor (aLen_val (aLen_nil))))))) (pad_cons (pd_P (pp_tup (pap_cons (pp_tup (pap_cons (pp_str) (pap_cons (pp_tup (pap_cons (pp_tup (pap_cons (pp_str) (pap_cons (pp_str) (pap_nil)))) (pap_cons (pp_tup (pap_cons (pp_str) (pap_cons (pp_str) (pap_nil)))) (pap_nil)))) (pap_nil)))) (pap_nil)))) (pad_nil))))) (fun q => nomatch q)) (psd_one (psd_ret (po_sh (pd_P (pp_cmp (od_eq hr.units) (pp_D (pd_fz (po_call G__law_code (hr.mono h__law_code) (by rfl) (takes_of rfl rfl rfl rfl) (paa_val (pd_P (pp_var 8)) (paa_val (pd_P (pp_tup (pap_cons (pp_D (pd_callTy cd_tuple (by rfl) T.n_tuple (by decide +kernel) (pad_P (pap_cons (pp_ix (hu_of hr) (pp_var 9) (pp_int) (fun _ _ => rfl)) (pap_nil)))) dn_all) (pap_cons (pp_ix (hu_of hr) (pp_var 9) (pp_int) (fun _ _ => rfl)) (pap_nil))))) (paa_nil))) (aLen_val (aLen_val (aLen_nil))))) (dn_call (dna_val (dna_val (dna_nil))))) (pp_str) (nomark _)))))))))))))))
theorem g_law {k : Nat} {k__law_tape : Nat} {r__law_tape : List O → Rs O} {k__law_plain_schema : Nat} {r__law_plain_schema : List O → Rs O} {k__law_question : Nat} {r__law_question : List O → Rs O} {k__law_code : Nat} {r__law_code : List O → Rs O} {k__law_take : Nat} {r__law_take : List O → Rs O} {k__law_faulty : Nat} {r__law_faulty : List O → Rs O} {fa : Addr} {fd : FuncData} {run : List O → Rs O} (T : Tx P w K mg base) (G__law_tape : FnG P w K mg base k__law_tape "_law_tape" bs__law_tape r__law_tape) (h__law_tape : k__law_tape ≤ k) (G__law_plain_schema : FnG P w K mg base k__law_plain_schema "_law_plain_schema" bs__law_plain_schema r__law_plain_schema) (h__law_plain_schema : k__law_plain_schema ≤ k) (G__law_question : FnG P w K mg base k__law_question "_law_question" bs__law_question r__law_question) (h__law_question : k__law_question ≤ k) (G__law_code : FnG P w K mg base k__law_code "_law_code" bs__law_code r__law_code) (h__law_code : k__law_code ≤ k) (G__law_take : FnG P w K mg base k__law_take "_law_take" bs__law_take r__law_take) (h__law_take : k__law_take ≤ k) (G__law_faulty : FnG P w K mg base k__law_faulty "_law_faulty" bs__law_faulty r__law_faulty) (h__law_faulty : k__law_faulty ≤ k) (F : Fun K "law" "law" s_law fa fd) (m : mg "law" = some (.ref fa))
    (hrun : ∀ os, os.length = 1 → run os ≠ .bad → fnRun bs_law 10 (b_law r__law_tape r__law_plain_schema r__law_question r__law_code r__law_take r__law_faulty) os = run os) : FnG P w K mg base (k + 1) "law" bs_law run :=
  ⟨fa, fd, p_law, fnD F sc_law rfl rfl hrun (fun cdv A outer s H vs E hr => d_law T G__law_tape h__law_tape G__law_plain_schema h__law_plain_schema G__law_question h__law_question G__law_code h__law_code G__law_take h__law_take G__law_faulty h__law_faulty hr), m, F.kp, F.binds fun _ _ _ _ _ _ us hl => match us, hl with | [_], _ => rfl⟩
end
end K67
set_option Elab.async false
set_option linter.all false
set_option maxRecDepth 100000
set_option maxHeartbeats 4000000
namespace K67
open PySem PySem.Spec PyProof.Rows L2 VH VC
/-- what a schema must be for us -/
structure Sk (s : Sch) : Prop where
  nd : (s.map (·.1)).Nodup
  len : s.length ≤ 100
  key : ∀ p ∈ s, ∃ c r, p.2 = c :: r ∧ c.null = false
def emD (s : Sch) : D := .dict (s.map fun p => (.str p.1, .dict []))
def emO (xs : List Str) : List (Key × O) := xs.map fun x => (.inr x, .sh (.dict []))
theorem fz_em : ∀ xs : List Str, fzK (emO xs) = xs.map fun x => (PyData.str x, PyData.dict [])
  | [] => rfl
  | p :: s => by
    show (kD (.inr p), fz (.sh (.dict []))) :: fzK (emO s) = _
    rw [fz_em s]; rfl
theorem fzb_em : ∀ xs : List Str, O.fzbK (emO xs) = true
  | [] => rfl
  | p :: s => by
    show (true && O.fzbK (emO s)) = true
    rw [fzb_em s]; rfl
def r_law_empty : List O → Rs O := fnRun bs__law_empty 3 b__law_empty
theorem keys_sc (s : Sch) : keysO (scD s) = some ((s.map (·.1)).map .str) := by
  unfold keysO scD keysD2
  simp only [List.map_map]
  rfl
theorem p_empty {s : Sch} (k : Sk s) : pr (r_law_empty [.sh (scD s)]) = .ok (emD s) := by
  unfold r_law_empty b__law_empty
  obtain ⟨env', h1, v, rfl⟩ := loop_ex (e := PyData.str) (tg := tgN 2) (body := L1__law_empty) (all := s.map (·.1))
    (I := fun pre env => ∃ v, env = [some (.sh (scD s)), some (.dic (emO pre)), v]) (fun pre a post env hp ⟨v, he⟩ => by
      subst he
      have hnd : (pre ++ a :: post).Nodup := hp ▸ k.nd
      have hnew : ∀ p ∈ emO pre, p.1 ≠ .inr a := fun p hp q => by
        obtain ⟨x, hx, rfl⟩ := List.mem_map.mp hp
        exact (List.nodup_append.mp hnd).2.2 x hx a List.mem_cons_self (Sum.inr.inj q)
      have hl : (emO pre).length < sizeLine := line_1000 (by
        have := congrArg List.length hp
        rw [List.length_map, List.length_append, List.length_cons] at this
        have h3 := k.len
        unfold emO
        rw [List.length_map]; omega)
      have hp := putO_new (v := .sh (.dict [])) hnew
      have hp2 : emO pre ++ [(.inr a, .sh (.dict []))] = emO (pre ++ [a]) := by unfold emO; rw [List.map_append]; rfl
      rw [hp2] at hp
      exact ⟨_, [some (.sh (scD s)), some (.dic (emO (pre ++ [a]))), some (.sh (.str a))], rfl, by simp only [pr_run, out, oR, sSeq, sIf, eP, ePk, ePkT, eFr, frzS, frz1, shE, VH.shS_sh, VH.shS_lst, VH.shS_dic, VH.shS_scr, VH.shS_none, pVar, pC, pBin, pChain, pUn, pMap, pB, pTru, pNN, pNNo, pAnd, pOr, pNot, pAndV, pOrV, pNotV, pIf, pNil, pCons, pAll, pPart, pPart0, pSl, pM1, pSeq, pSeq2, pCall_pr, pGet2, pGet3, isDic, Pr.bind, Pr.lift, eAnd, eOr, eNot, eB, bnd, eBin, eUn, eSub, eC, VH.ret, lift, eVar, eSh, eFz, sSet, sRet, sPut, sAsg, sPar, sPar3, sFz, tgN, tgT, tgSeq, eAll, eCons, eNil, eIf, sDo, sApp, sExt, sNext, oLst, oAdd, oIf, oList, oDic0, eMov, eSl, ePart, eCallU, aNil, aVal, aBor, takeA, putA, sRaise, List.getElem?_cons_zero, List.getElem?_cons_succ, List.set_cons_zero, List.set_cons_succ, Nat.reduceSub, Nat.reduceAdd, Nat.reduceLT, Nat.reduceLeDiff, Option.bind, Option.map, O.fzb, O.fzbK, fz, blD, VH.isN_none, VH.isN_int, VH.isN_str, VH.isN_bool, VH.isN_tup, VH.isN_lst, VH.isN_dic, vi_int, vi_bool, vi_str, vi_tuple, vi_list, vi_dict, truD, flR, flRA, List.map_cons, List.map_nil, List.replicate, List.cons_append, List.nil_append, List.length_cons, List.length_nil, if_true, if_false, ite_true, ite_false, Bool.false_eq_true, decide_true, decide_false, beq_self_eq_true, Bool.not_true, Bool.not_false, and_self, and_true, true_and, and_false, false_and, Bool.or_true, Bool.true_or, Bool.or_false, Bool.false_or, Bool.and_true, Bool.and_false, Bool.true_and, Bool.false_and, ne_eq, not_false_eq_true, not_true_eq_false, reduceCtorEq, VH.eq_str, VH.ne_str, VH.eq_int, VH.ne_int, VH.add_int, VH.le_int, VH.lt_int, VH.gt_int, VH.ge_int, VH.ixt0, VH.ixt1, VH.ixt2, VH.ixl0, VH.ixl1, VH.tup0, VH.tup1, VH.tup2, VH.tup3, VH.lst0, VH.lst1, VH.lst2, VH.lst3, VH.len_list, VH.len_tuple, VH.items_list, VH.items_tuple, L1__law_empty, hl, kD_inr, hp], _, rfl⟩) (s.map (·.1)) [] [some (.sh (scD s)), some (.dic (emO [])), none] rfl ⟨none, rfl⟩
  rw [pr_run]
  simp only [List.map_cons, List.map_nil, List.length_cons, List.length_nil, Nat.reduceSub, Nat.reduceAdd, List.replicate, List.cons_append, List.nil_append]
  rw [seq_ok (e := [some (.sh (scD s)), some (.dic (emO [])), none])]
  rotate_left
  · simp only [pr_run, out, oR, sSeq, sIf, eP, ePk, ePkT, eFr, frzS, frz1, shE, VH.shS_sh, VH.shS_lst, VH.shS_dic, VH.shS_scr, VH.shS_none, pVar, pC, pBin, pChain, pUn, pMap, pB, pTru, pNN, pNNo, pAnd, pOr, pNot, pAndV, pOrV, pNotV, pIf, pNil, pCons, pAll, pPart, pPart0, pSl, pM1, pSeq, pSeq2, pCall_pr, pGet2, pGet3, isDic, Pr.bind, Pr.lift, eAnd, eOr, eNot, eB, bnd, eBin, eUn, eSub, eC, VH.ret, lift, eVar, eSh, eFz, sSet, sRet, sPut, sAsg, sPar, sPar3, sFz, tgN, tgT, tgSeq, eAll, eCons, eNil, eIf, sDo, sApp, sExt, sNext, oLst, oAdd, oIf, oList, oDic0, eMov, eSl, ePart, eCallU, aNil, aVal, aBor, takeA, putA, sRaise, List.getElem?_cons_zero, List.getElem?_cons_succ, List.set_cons_zero, List.set_cons_succ, Nat.reduceSub, Nat.reduceAdd, Nat.reduceLT, Nat.reduceLeDiff, Option.bind, Option.map, O.fzb, O.fzbK, fz, blD, VH.isN_none, VH.isN_int, VH.isN_str, VH.isN_bool, VH.isN_tup, VH.isN_lst, VH.isN_dic, vi_int, vi_bool, vi_str, vi_tuple, vi_list, vi_dict, truD, flR, flRA, List.map_cons, List.map_nil, List.replicate, List.cons_append, List.nil_append, List.length_cons, List.length_nil, if_true, if_false, ite_true, ite_false, Bool.false_eq_true, decide_true, decide_false, beq_self_eq_true, Bool.not_true, Bool.not_false, and_self, and_true, true_and, and_false, false_and, Bool.or_true, Bool.true_or, Bool.or_false, Bool.false_or, Bool.and_true, Bool.and_false, Bool.true_and, Bool.false_and, ne_eq, not_false_eq_true, not_true_eq_false, reduceCtorEq, VH.eq_str, VH.ne_str, VH.eq_int, VH.ne_int, VH.add_int, VH.le_int, VH.lt_int, VH.gt_int, VH.ge_int, VH.ixt0, VH.ixt1, VH.ixt2, VH.ixl0, VH.ixl1, VH.tup0, VH.tup1, VH.tup2, VH.tup3, VH.lst0, VH.lst1, VH.lst2, VH.lst3, VH.len_list, VH.len_tuple, VH.items_list, VH.items_tuple]
    rfl
  rw [seq_ok (e := [some (.sh (scD s)), some (.dic (emO (s.map (·.1)))), v])]
  rotate_left
  · rw [forK_eq (items := (s.map (·.1)).map .str)]
    · rw [h1]; rfl
    · exact pSeq_eq (d := scD s) (by simp only [pr_run, out, oR, sSeq, sIf, eP, ePk, ePkT, eFr, frzS, frz1, shE, VH.shS_sh, VH.shS_lst, VH.shS_dic, VH.shS_scr, VH.shS_none, pVar, pC, pBin, pChain, pUn, pMap, pB, pTru, pNN, pNNo, pAnd, pOr, pNot, pAndV, pOrV, pNotV, pIf, pNil, pCons, pAll, pPart, pPart0, pSl, pM1, pSeq, pSeq2, pCall_pr, pGet2, pGet3, isDic, Pr.bind, Pr.lift, eAnd, eOr, eNot, eB, bnd, eBin, eUn, eSub, eC, VH.ret, lift, eVar, eSh, eFz, sSet, sRet, sPut, sAsg, sPar, sPar3, sFz, tgN, tgT, tgSeq, eAll, eCons, eNil, eIf, sDo, sApp, sExt, sNext, oLst, oAdd, oIf, oList, oDic0, eMov, eSl, ePart, eCallU, aNil, aVal, aBor, takeA, putA, sRaise, List.getElem?_cons_zero, List.getElem?_cons_succ, List.set_cons_zero, List.set_cons_succ, Nat.reduceSub, Nat.reduceAdd, Nat.reduceLT, Nat.reduceLeDiff, Option.bind, Option.map, O.fzb, O.fzbK, fz, blD, VH.isN_none, VH.isN_int, VH.isN_str, VH.isN_bool, VH.isN_tup, VH.isN_lst, VH.isN_dic, vi_int, vi_bool, vi_str, vi_tuple, vi_list, vi_dict, truD, flR, flRA, List.map_cons, List.map_nil, List.replicate, List.cons_append, List.nil_append, List.length_cons, List.length_nil, if_true, if_false, ite_true, ite_false, Bool.false_eq_true, decide_true, decide_false, beq_self_eq_true, Bool.not_true, Bool.not_false, and_self, and_true, true_and, and_false, false_and, Bool.or_true, Bool.true_or, Bool.or_false, Bool.false_or, Bool.and_true, Bool.and_false, Bool.true_and, Bool.false_and, ne_eq, not_false_eq_true, not_true_eq_false, reduceCtorEq, VH.eq_str, VH.ne_str, VH.eq_int, VH.ne_int, VH.add_int, VH.le_int, VH.lt_int, VH.gt_int, VH.ge_int, VH.ixt0, VH.ixt1, VH.ixt2, VH.ixl0, VH.ixl1, VH.tup0, VH.tup1, VH.tup2, VH.tup3, VH.lst0, VH.lst1, VH.lst2, VH.lst3, VH.len_list, VH.len_tuple, VH.items_list, VH.items_tuple]) (keys_sc s)
  simp only [pr_run, out, oR, sSeq, sIf, eP, ePk, ePkT, eFr, frzS, frz1, shE, VH.shS_sh, VH.shS_lst, VH.shS_dic, VH.shS_scr, VH.shS_none, pVar, pC, pBin, pChain, pUn, pMap, pB, pTru, pNN, pNNo, pAnd, pOr, pNot, pAndV, pOrV, pNotV, pIf, pNil, pCons, pAll, pPart, pPart0, pSl, pM1, pSeq, pSeq2, pCall_pr, pGet2, pGet3, isDic, Pr.bind, Pr.lift, eAnd, eOr, eNot, eB, bnd, eBin, eUn, eSub, eC, VH.ret, lift, eVar, eSh, eFz, sSet, sRet, sPut, sAsg, sPar, sPar3, sFz, tgN, tgT, tgSeq, eAll, eCons, eNil, eIf, sDo, sApp, sExt, sNext, oLst, oAdd, oIf, oList, oDic0, eMov, eSl, ePart, eCallU, aNil, aVal, aBor, takeA, putA, sRaise, List.getElem?_cons_zero, List.getElem?_cons_succ, List.set_cons_zero, List.set_cons_succ, Nat.reduceSub, Nat.reduceAdd, Nat.reduceLT, Nat.reduceLeDiff, Option.bind, Option.map, O.fzb, O.fzbK, fz, blD, VH.isN_none, VH.isN_int, VH.isN_str, VH.isN_bool, VH.isN_tup, VH.isN_lst, VH.isN_dic, vi_int, vi_bool, vi_str, vi_tuple, vi_list, vi_dict, truD, flR, flRA, List.map_cons, List.map_nil, List.replicate, List.cons_append, List.nil_append, List.length_cons, List.length_nil, if_true, if_false, ite_true, ite_false, Bool.false_eq_true, decide_true, decide_false, beq_self_eq_true, Bool.not_true, Bool.not_false, and_self, and_true, true_and, and_false, false_and, Bool.or_true, Bool.true_or, Bool.or_false, Bool.false_or, Bool.and_true, Bool.and_false, Bool.true_and, Bool.false_and, ne_eq, not_false_eq_true, not_true_eq_false, reduceCtorEq, VH.eq_str, VH.ne_str, VH.eq_int, VH.ne_int, VH.add_int, VH.le_int, VH.lt_int, VH.gt_int, VH.ge_int, VH.ixt0, VH.ixt1, VH.ixt2, VH.ixl0, VH.ixl1, VH.tup0, VH.tup1, VH.tup2, VH.tup3, VH.lst0, VH.lst1, VH.lst2, VH.lst3, VH.len_list, VH.len_tuple, VH.items_list, VH.items_tuple, fzb_em, fz_em, emD, List.map_map]
  rfl
theorem look_em {s : Sch} {t : Str} {cs : List Col} (h : s.lookup t = some cs) : idxD (emD s) (.str t) = some (.dict []) := by
  show (VH.keyOf (.str t)).bind (lookK (s.map fun p => (PyData.str p.1, PyData.dict []))) = _
  rw [kD_inr, Option.bind_some]
  induction s with
  | nil => cases h
  | cons p s ih =>
    show (if VH.keyOf (.str p.1) = some (.inr t) then some (PyData.dict []) else lookK (s.map fun p => (PyData.str p.1, PyData.dict [])) (.inr t)) = _
    rw [List.lookup_cons] at h
    by_cases e : t = p.1
    · subst e
      rw [if_pos (show VH.keyOf (.str p.1) = some (.inr p.1) from rfl)]
    · have h3 : (t == p.1) = false := by simpa using e
      rw [h3] at h
      rw [if_neg fun q => e (by injection q with q; injection q with q; exact q.symm)]
      exact ih h
def r_rows_for : List O → Rs O := fnRun bs_rows_for 7 b_rows_for
/-- an atom that passes -/
structure POk (s : Sch) (a : Atom) : Prop where
  tb : ∃ cs, s.lookup a.1 = some cs
  t0 : ∃ t r, a.2 = t :: r ∧ ((∃ x, t = .var x) ∨ ∃ k, t = .is (some k))
theorem in_nil (x : D) (k : Key) (h : VH.keyOf x = some k) : inOp x (.dict []) = some (.bool false) := by
  unfold inOp inB
  simp only [h]
  rfl
theorem nin_nil (x : D) (k : Key) (h : VH.keyOf x = some k) : ninOp x (.dict []) = some (.bool true) := by
  unfold ninOp inB
  simp only [h]
  rfl
theorem p_rows {s : Sch} {a : Atom} (h : POk s a) : pr (r_rows_for [.sh (emD s), .sh (atD a), .sh (.dict [])]) = .ok (.list []) := by
  obtain ⟨t, ts⟩ := a
  obtain ⟨cs, hc⟩ := h.tb
  obtain ⟨t0, r, h0, ht⟩ := h.t0
  dsimp only at h0 hc
  subst h0
  have e1 := look_em hc
  unfold r_rows_for b_rows_for
  rcases ht with ⟨x, rfl⟩ | ⟨k, rfl⟩
  · have e2 := nin_nil (.str x) _ rfl
    simp only [pr_run, out, oR, sSeq, sIf, eP, ePk, ePkT, eFr, frzS, frz1, shE, VH.shS_sh, VH.shS_lst, VH.shS_dic, VH.shS_scr, VH.shS_none, pVar, pC, pBin, pChain, pUn, pMap, pB, pTru, pNN, pNNo, pAnd, pOr, pNot, pAndV, pOrV, pNotV, pIf, pNil, pCons, pAll, pPart, pPart0, pSl, pM1, pSeq, pSeq2, pCall_pr, pGet2, pGet3, isDic, Pr.bind, Pr.lift, eAnd, eOr, eNot, eB, bnd, eBin, eUn, eSub, eC, VH.ret, lift, eVar, eSh, eFz, sSet, sRet, sPut, sAsg, sPar, sPar3, sFz, tgN, tgT, tgSeq, eAll, eCons, eNil, eIf, sDo, sApp, sExt, sNext, oLst, oAdd, oIf, oList, oDic0, eMov, eSl, ePart, eCallU, aNil, aVal, aBor, takeA, putA, sRaise, List.getElem?_cons_zero, List.getElem?_cons_succ, List.set_cons_zero, List.set_cons_succ, Nat.reduceSub, Nat.reduceAdd, Nat.reduceLT, Nat.reduceLeDiff, Option.bind, Option.map, O.fzb, O.fzbK, fz, blD, VH.isN_none, VH.isN_int, VH.isN_str, VH.isN_bool, VH.isN_tup, VH.isN_lst, VH.isN_dic, vi_int, vi_bool, vi_str, vi_tuple, vi_list, vi_dict, truD, flR, flRA, List.map_cons, List.map_nil, List.replicate, List.cons_append, List.nil_append, List.length_cons, List.length_nil, if_true, if_false, ite_true, ite_false, Bool.false_eq_true, decide_true, decide_false, beq_self_eq_true, Bool.not_true, Bool.not_false, and_self, and_true, true_and, and_false, false_and, Bool.or_true, Bool.true_or, Bool.or_false, Bool.false_or, Bool.and_true, Bool.and_false, Bool.true_and, Bool.false_and, ne_eq, not_false_eq_true, not_true_eq_false, reduceCtorEq, VH.eq_str, VH.ne_str, VH.eq_int, VH.ne_int, VH.add_int, VH.le_int, VH.lt_int, VH.gt_int, VH.ge_int, VH.ixt0, VH.ixt1, VH.ixt2, VH.ixl0, VH.ixl1, VH.tup0, VH.tup1, VH.tup2, VH.tup3, VH.lst0, VH.lst1, VH.lst2, VH.lst3, VH.len_list, VH.len_tuple, VH.items_list, VH.items_tuple, atD, List.map_cons, tmD, e2]
    have hc : pComp (pSeq keysO (pBin idxD (pVar 0) (pVar 3))) (tgN 6) [6] (fun _ => .ok true) (pBin addD (pAll tupD (pCons (pVar 6) (pNil))) (pBin idxD (pBin idxD (pVar 0) (pVar 3)) (pVar 6)))
      [some (.sh (emD s)), some (.sh (.tuple [.str t, .tuple (.tuple [.str (Str.ofString "var"), .str x] :: r.map tmD)])), some (.sh (.dict [])), some (.sh (.str t)), some (.sh (.tuple (.tuple [.str (Str.ofString "var"), .str x] :: r.map tmD))), some (.sh (.str x)), none] = .ok (.list []) :=
      pCompL_eq (items := []) (pSeq_eq (d := .dict []) (by simp only [pr_run, out, oR, sSeq, sIf, eP, ePk, ePkT, eFr, frzS, frz1, shE, VH.shS_sh, VH.shS_lst, VH.shS_dic, VH.shS_scr, VH.shS_none, pVar, pC, pBin, pChain, pUn, pMap, pB, pTru, pNN, pNNo, pAnd, pOr, pNot, pAndV, pOrV, pNotV, pIf, pNil, pCons, pAll, pPart, pPart0, pSl, pM1, pSeq, pSeq2, pCall_pr, pGet2, pGet3, isDic, Pr.bind, Pr.lift, eAnd, eOr, eNot, eB, bnd, eBin, eUn, eSub, eC, VH.ret, lift, eVar, eSh, eFz, sSet, sRet, sPut, sAsg, sPar, sPar3, sFz, tgN, tgT, tgSeq, eAll, eCons, eNil, eIf, sDo, sApp, sExt, sNext, oLst, oAdd, oIf, oList, oDic0, eMov, eSl, ePart, eCallU, aNil, aVal, aBor, takeA, putA, sRaise, List.getElem?_cons_zero, List.getElem?_cons_succ, List.set_cons_zero, List.set_cons_succ, Nat.reduceSub, Nat.reduceAdd, Nat.reduceLT, Nat.reduceLeDiff, Option.bind, Option.map, O.fzb, O.fzbK, fz, blD, VH.isN_none, VH.isN_int, VH.isN_str, VH.isN_bool, VH.isN_tup, VH.isN_lst, VH.isN_dic, vi_int, vi_bool, vi_str, vi_tuple, vi_list, vi_dict, truD, flR, flRA, List.map_cons, List.map_nil, List.replicate, List.cons_append, List.nil_append, List.length_cons, List.length_nil, if_true, if_false, ite_true, ite_false, Bool.false_eq_true, decide_true, decide_false, beq_self_eq_true, Bool.not_true, Bool.not_false, and_self, and_true, true_and, and_false, false_and, Bool.or_true, Bool.true_or, Bool.or_false, Bool.false_or, Bool.and_true, Bool.and_false, Bool.true_and, Bool.false_and, ne_eq, not_false_eq_true, not_true_eq_false, reduceCtorEq, VH.eq_str, VH.ne_str, VH.eq_int, VH.ne_int, VH.add_int, VH.le_int, VH.lt_int, VH.gt_int, VH.ge_int, VH.ixt0, VH.ixt1, VH.ixt2, VH.ixl0, VH.ixl1, VH.tup0, VH.tup1, VH.tup2, VH.tup3, VH.lst0, VH.lst1, VH.lst2, VH.lst3, VH.len_list, VH.len_tuple, VH.items_list, VH.items_tuple, e1]) rfl) rfl
    simp only [pr_run, out, oR, sSeq, sIf, eP, ePk, ePkT, eFr, frzS, frz1, shE, VH.shS_sh, VH.shS_lst, VH.shS_dic, VH.shS_scr, VH.shS_none, pVar, pC, pBin, pChain, pUn, pMap, pB, pTru, pNN, pNNo, pAnd, pOr, pNot, pAndV, pOrV, pNotV, pIf, pNil, pCons, pAll, pPart, pPart0, pSl, pM1, pSeq, pSeq2, pCall_pr, pGet2, pGet3, isDic, Pr.bind, Pr.lift, eAnd, eOr, eNot, eB, bnd, eBin, eUn, eSub, eC, VH.ret, lift, eVar, eSh, eFz, sSet, sRet, sPut, sAsg, sPar, sPar3, sFz, tgN, tgT, tgSeq, eAll, eCons, eNil, eIf, sDo, sApp, sExt, sNext, oLst, oAdd, oIf, oList, oDic0, eMov, eSl, ePart, eCallU, aNil, aVal, aBor, takeA, putA, sRaise, List.getElem?_cons_zero, List.getElem?_cons_succ, List.set_cons_zero, List.set_cons_succ, Nat.reduceSub, Nat.reduceAdd, Nat.reduceLT, Nat.reduceLeDiff, Option.bind, Option.map, O.fzb, O.fzbK, fz, blD, VH.isN_none, VH.isN_int, VH.isN_str, VH.isN_bool, VH.isN_tup, VH.isN_lst, VH.isN_dic, vi_int, vi_bool, vi_str, vi_tuple, vi_list, vi_dict, truD, flR, flRA, List.map_cons, List.map_nil, List.replicate, List.cons_append, List.nil_append, List.length_cons, List.length_nil, if_true, if_false, ite_true, ite_false, Bool.false_eq_true, decide_true, decide_false, beq_self_eq_true, Bool.not_true, Bool.not_false, and_self, and_true, true_and, and_false, false_and, Bool.or_true, Bool.true_or, Bool.or_false, Bool.false_or, Bool.and_true, Bool.and_false, Bool.true_and, Bool.false_and, ne_eq, not_false_eq_true, not_true_eq_false, reduceCtorEq, VH.eq_str, VH.ne_str, VH.eq_int, VH.ne_int, VH.add_int, VH.le_int, VH.lt_int, VH.gt_int, VH.ge_int, VH.ixt0, VH.ixt1, VH.ixt2, VH.ixl0, VH.ixl1, VH.tup0, VH.tup1, VH.tup2, VH.tup3, VH.lst0, VH.lst1, VH.lst2, VH.lst3, VH.len_list, VH.len_tuple, VH.items_list, VH.items_tuple, hc]
  · have e2 := in_nil (kD k) k (keyOf_kD k)
    simp only [pr_run, out, oR, sSeq, sIf, eP, ePk, ePkT, eFr, frzS, frz1, shE, VH.shS_sh, VH.shS_lst, VH.shS_dic, VH.shS_scr, VH.shS_none, pVar, pC, pBin, pChain, pUn, pMap, pB, pTru, pNN, pNNo, pAnd, pOr, pNot, pAndV, pOrV, pNotV, pIf, pNil, pCons, pAll, pPart, pPart0, pSl, pM1, pSeq, pSeq2, pCall_pr, pGet2, pGet3, isDic, Pr.bind, Pr.lift, eAnd, eOr, eNot, eB, bnd, eBin, eUn, eSub, eC, VH.ret, lift, eVar, eSh, eFz, sSet, sRet, sPut, sAsg, sPar, sPar3, sFz, tgN, tgT, tgSeq, eAll, eCons, eNil, eIf, sDo, sApp, sExt, sNext, oLst, oAdd, oIf, oList, oDic0, eMov, eSl, ePart, eCallU, aNil, aVal, aBor, takeA, putA, sRaise, List.getElem?_cons_zero, List.getElem?_cons_succ, List.set_cons_zero, List.set_cons_succ, Nat.reduceSub, Nat.reduceAdd, Nat.reduceLT, Nat.reduceLeDiff, Option.bind, Option.map, O.fzb, O.fzbK, fz, blD, VH.isN_none, VH.isN_int, VH.isN_str, VH.isN_bool, VH.isN_tup, VH.isN_lst, VH.isN_dic, vi_int, vi_bool, vi_str, vi_tuple, vi_list, vi_dict, truD, flR, flRA, List.map_cons, List.map_nil, List.replicate, List.cons_append, List.nil_append, List.length_cons, List.length_nil, if_true, if_false, ite_true, ite_false, Bool.false_eq_true, decide_true, decide_false, beq_self_eq_true, Bool.not_true, Bool.not_false, and_self, and_true, true_and, and_false, false_and, Bool.or_true, Bool.true_or, Bool.or_false, Bool.false_or, Bool.and_true, Bool.and_false, Bool.true_and, Bool.false_and, ne_eq, not_false_eq_true, not_true_eq_false, reduceCtorEq, VH.eq_str, VH.ne_str, VH.eq_int, VH.ne_int, VH.add_int, VH.le_int, VH.lt_int, VH.gt_int, VH.ge_int, VH.ixt0, VH.ixt1, VH.ixt2, VH.ixl0, VH.ixl1, VH.tup0, VH.tup1, VH.tup2, VH.tup3, VH.lst0, VH.lst1, VH.lst2, VH.lst3, VH.len_list, VH.len_tuple, VH.items_list, VH.items_tuple, atD, List.map_cons, tmD, is_ne_var, vD, e1, e2]
def r_all_val : List O → Rs O := fnRun bs_all_valuations 8 (b_all_valuations r_rows_for)
theorem vals_nil : valsD (.dict []) = some (.list []) := rfl
theorem loop_nil {tg : Tg} {b : En → Rs Fl} {e : En} : loopS tg b [] e = .ok .nx e := rfl
theorem p_allval {s : Sch} {as : List Atom} (h : ∀ a ∈ as, POk s a) (h0 : as ≠ []) : pr (r_all_val [.sh (emD s), .sh (.tuple (as.map atD))]) = .ok (.list []) := by
  unfold r_all_val b_all_valuations
  cases as with
  | nil => exact absurd rfl h0
  | cons a as =>
    have e1 := p_rows (h a List.mem_cons_self)
    have first : L2_all_valuations r_rows_for [some (.sh (emD s)), some (.sh (.tuple ((a :: as).map atD))), some (.sh (.list [.dict []])), some (.sh (atD a)), none, none, none, none] =
        .ok .nx [some (.sh (emD s)), some (.sh (.tuple ((a :: as).map atD))), some (.sh (.list [])), some (.sh (atD a)), some (.sh (.dict [])), some (.sh (.dict [])), none, none] := by
      have hin : L1_all_valuations r_rows_for [some (.sh (emD s)), some (.sh (.tuple ((a :: as).map atD))), some (.sh (.list [.dict []])), some (.sh (atD a)), some (.dic []), some (.sh (.dict [])), none, none] = .ok .nx [some (.sh (emD s)), some (.sh (.tuple ((a :: as).map atD))), some (.sh (.list [.dict []])), some (.sh (atD a)), some (.dic []), some (.sh (.dict [])), none, none] := by
        unfold L1_all_valuations
        rw [for_eq (items := [])]
        · rfl
        · simp only [pr_run, out, oR, sSeq, sIf, eP, ePk, ePkT, eFr, frzS, frz1, shE, VH.shS_sh, VH.shS_lst, VH.shS_dic, VH.shS_scr, VH.shS_none, pVar, pC, pBin, pChain, pUn, pMap, pB, pTru, pNN, pNNo, pAnd, pOr, pNot, pAndV, pOrV, pNotV, pIf, pNil, pCons, pAll, pPart, pPart0, pSl, pM1, pSeq, pSeq2, pCall_pr, pGet2, pGet3, isDic, Pr.bind, Pr.lift, eAnd, eOr, eNot, eB, bnd, eBin, eUn, eSub, eC, VH.ret, lift, eVar, eSh, eFz, sSet, sRet, sPut, sAsg, sPar, sPar3, sFz, tgN, tgT, tgSeq, eAll, eCons, eNil, eIf, sDo, sApp, sExt, sNext, oLst, oAdd, oIf, oList, oDic0, eMov, eSl, ePart, eCallU, aNil, aVal, aBor, takeA, putA, sRaise, List.getElem?_cons_zero, List.getElem?_cons_succ, List.set_cons_zero, List.set_cons_succ, Nat.reduceSub, Nat.reduceAdd, Nat.reduceLT, Nat.reduceLeDiff, Option.bind, Option.map, O.fzb, O.fzbK, fz, blD, VH.isN_none, VH.isN_int, VH.isN_str, VH.isN_bool, VH.isN_tup, VH.isN_lst, VH.isN_dic, vi_int, vi_bool, vi_str, vi_tuple, vi_list, vi_dict, truD, flR, flRA, List.map_cons, List.map_nil, List.replicate, List.cons_append, List.nil_append, List.length_cons, List.length_nil, if_true, if_false, ite_true, ite_false, Bool.false_eq_true, decide_true, decide_false, beq_self_eq_true, Bool.not_true, Bool.not_false, and_self, and_true, true_and, and_false, false_and, Bool.or_true, Bool.true_or, Bool.or_false, Bool.false_or, Bool.and_true, Bool.and_false, Bool.true_and, Bool.false_and, ne_eq, not_false_eq_true, not_true_eq_false, reduceCtorEq, VH.eq_str, VH.ne_str, VH.eq_int, VH.ne_int, VH.add_int, VH.le_int, VH.lt_int, VH.gt_int, VH.ge_int, VH.ixt0, VH.ixt1, VH.ixt2, VH.ixl0, VH.ixl1, VH.tup0, VH.tup1, VH.tup2, VH.tup3, VH.lst0, VH.lst1, VH.lst2, VH.lst3, VH.len_list, VH.len_tuple, VH.items_list, VH.items_tuple, e1]
      unfold L2_all_valuations
      rw [seq_ok (e := [some (.sh (emD s)), some (.sh (.tuple ((a :: as).map atD))), some (.sh (.list [.dict []])), some (.sh (atD a)), some (.dic []), none, none, none])]
      rotate_left
      · simp only [pr_run, out, oR, sSeq, sIf, eP, ePk, ePkT, eFr, frzS, frz1, shE, VH.shS_sh, VH.shS_lst, VH.shS_dic, VH.shS_scr, VH.shS_none, pVar, pC, pBin, pChain, pUn, pMap, pB, pTru, pNN, pNNo, pAnd, pOr, pNot, pAndV, pOrV, pNotV, pIf, pNil, pCons, pAll, pPart, pPart0, pSl, pM1, pSeq, pSeq2, pCall_pr, pGet2, pGet3, isDic, Pr.bind, Pr.lift, eAnd, eOr, eNot, eB, bnd, eBin, eUn, eSub, eC, VH.ret, lift, eVar, eSh, eFz, sSet, sRet, sPut, sAsg, sPar, sPar3, sFz, tgN, tgT, tgSeq, eAll, eCons, eNil, eIf, sDo, sApp, sExt, sNext, oLst, oAdd, oIf, oList, oDic0, eMov, eSl, ePart, eCallU, aNil, aVal, aBor, takeA, putA, sRaise, List.getElem?_cons_zero, List.getElem?_cons_succ, List.set_cons_zero, List.set_cons_succ, Nat.reduceSub, Nat.reduceAdd, Nat.reduceLT, Nat.reduceLeDiff, Option.bind, Option.map, O.fzb, O.fzbK, fz, blD, VH.isN_none, VH.isN_int, VH.isN_str, VH.isN_bool, VH.isN_tup, VH.isN_lst, VH.isN_dic, vi_int, vi_bool, vi_str, vi_tuple, vi_list, vi_dict, truD, flR, flRA, List.map_cons, List.map_nil, List.replicate, List.cons_append, List.nil_append, List.length_cons, List.length_nil, if_true, if_false, ite_true, ite_false, Bool.false_eq_true, decide_true, decide_false, beq_self_eq_true, Bool.not_true, Bool.not_false, and_self, and_true, true_and, and_false, false_and, Bool.or_true, Bool.true_or, Bool.or_false, Bool.false_or, Bool.and_true, Bool.and_false, Bool.true_and, Bool.false_and, ne_eq, not_false_eq_true, not_true_eq_false, reduceCtorEq, VH.eq_str, VH.ne_str, VH.eq_int, VH.ne_int, VH.add_int, VH.le_int, VH.lt_int, VH.gt_int, VH.ge_int, VH.ixt0, VH.ixt1, VH.ixt2, VH.ixl0, VH.ixl1, VH.tup0, VH.tup1, VH.tup2, VH.tup3, VH.lst0, VH.lst1, VH.lst2, VH.lst3, VH.len_list, VH.len_tuple, VH.items_list, VH.items_tuple]
      rw [seq_ok (e := [some (.sh (emD s)), some (.sh (.tuple ((a :: as).map atD))), some (.sh (.list [.dict []])), some (.sh (atD a)), some (.dic []), some (.sh (.dict [])), none, none])]
      rotate_left
      · rw [for_eq (items := [.dict []])]
        · unfold loopS
          rw [show tgN 5 (.dict []) [some (.sh (emD s)), some (.sh (.tuple ((a :: as).map atD))), some (.sh (.list [.dict []])), some (.sh (atD a)), some (.dic []), none, none, none] = some [some (.sh (emD s)), some (.sh (.tuple ((a :: as).map atD))), some (.sh (.list [.dict []])), some (.sh (atD a)), some (.dic []), some (.sh (.dict [])), none, none] from rfl]
          dsimp only
          rw [hin]
          rfl
        · simp only [pr_run, out, oR, sSeq, sIf, eP, ePk, ePkT, eFr, frzS, frz1, shE, VH.shS_sh, VH.shS_lst, VH.shS_dic, VH.shS_scr, VH.shS_none, pVar, pC, pBin, pChain, pUn, pMap, pB, pTru, pNN, pNNo, pAnd, pOr, pNot, pAndV, pOrV, pNotV, pIf, pNil, pCons, pAll, pPart, pPart0, pSl, pM1, pSeq, pSeq2, pCall_pr, pGet2, pGet3, isDic, Pr.bind, Pr.lift, eAnd, eOr, eNot, eB, bnd, eBin, eUn, eSub, eC, VH.ret, lift, eVar, eSh, eFz, sSet, sRet, sPut, sAsg, sPar, sPar3, sFz, tgN, tgT, tgSeq, eAll, eCons, eNil, eIf, sDo, sApp, sExt, sNext, oLst, oAdd, oIf, oList, oDic0, eMov, eSl, ePart, eCallU, aNil, aVal, aBor, takeA, putA, sRaise, List.getElem?_cons_zero, List.getElem?_cons_succ, List.set_cons_zero, List.set_cons_succ, Nat.reduceSub, Nat.reduceAdd, Nat.reduceLT, Nat.reduceLeDiff, Option.bind, Option.map, O.fzb, O.fzbK, fz, blD, VH.isN_none, VH.isN_int, VH.isN_str, VH.isN_bool, VH.isN_tup, VH.isN_lst, VH.isN_dic, vi_int, vi_bool, vi_str, vi_tuple, vi_list, vi_dict, truD, flR, flRA, List.map_cons, List.map_nil, List.replicate, List.cons_append, List.nil_append, List.length_cons, List.length_nil, if_true, if_false, ite_true, ite_false, Bool.false_eq_true, decide_true, decide_false, beq_self_eq_true, Bool.not_true, Bool.not_false, and_self, and_true, true_and, and_false, false_and, Bool.or_true, Bool.true_or, Bool.or_false, Bool.false_or, Bool.and_true, Bool.and_false, Bool.true_and, Bool.false_and, ne_eq, not_false_eq_true, not_true_eq_false, reduceCtorEq, VH.eq_str, VH.ne_str, VH.eq_int, VH.ne_int, VH.add_int, VH.le_int, VH.lt_int, VH.gt_int, VH.ge_int, VH.ixt0, VH.ixt1, VH.ixt2, VH.ixl0, VH.ixl1, VH.tup0, VH.tup1, VH.tup2, VH.tup3, VH.lst0, VH.lst1, VH.lst2, VH.lst3, VH.len_list, VH.len_tuple, VH.items_list, VH.items_tuple]
      simp only [pr_run, out, oR, sSeq, sIf, eP, ePk, ePkT, eFr, frzS, frz1, shE, VH.shS_sh, VH.shS_lst, VH.shS_dic, VH.shS_scr, VH.shS_none, pVar, pC, pBin, pChain, pUn, pMap, pB, pTru, pNN, pNNo, pAnd, pOr, pNot, pAndV, pOrV, pNotV, pIf, pNil, pCons, pAll, pPart, pPart0, pSl, pM1, pSeq, pSeq2, pCall_pr, pGet2, pGet3, isDic, Pr.bind, Pr.lift, eAnd, eOr, eNot, eB, bnd, eBin, eUn, eSub, eC, VH.ret, lift, eVar, eSh, eFz, sSet, sRet, sPut, sAsg, sPar, sPar3, sFz, tgN, tgT, tgSeq, eAll, eCons, eNil, eIf, sDo, sApp, sExt, sNext, oLst, oAdd, oIf, oList, oDic0, eMov, eSl, ePart, eCallU, aNil, aVal, aBor, takeA, putA, sRaise, List.getElem?_cons_zero, List.getElem?_cons_succ, List.set_cons_zero, List.set_cons_succ, Nat.reduceSub, Nat.reduceAdd, Nat.reduceLT, Nat.reduceLeDiff, Option.bind, Option.map, O.fzb, O.fzbK, fz, blD, VH.isN_none, VH.isN_int, VH.isN_str, VH.isN_bool, VH.isN_tup, VH.isN_lst, VH.isN_dic, vi_int, vi_bool, vi_str, vi_tuple, vi_list, vi_dict, truD, flR, flRA, List.map_cons, List.map_nil, List.replicate, List.cons_append, List.nil_append, List.length_cons, List.length_nil, if_true, if_false, ite_true, ite_false, Bool.false_eq_true, decide_true, decide_false, beq_self_eq_true, Bool.not_true, Bool.not_false, and_self, and_true, true_and, and_false, false_and, Bool.or_true, Bool.true_or, Bool.or_false, Bool.false_or, Bool.and_true, Bool.and_false, Bool.true_and, Bool.false_and, ne_eq, not_false_eq_true, not_true_eq_false, reduceCtorEq, VH.eq_str, VH.ne_str, VH.eq_int, VH.ne_int, VH.add_int, VH.le_int, VH.lt_int, VH.gt_int, VH.ge_int, VH.ixt0, VH.ixt1, VH.ixt2, VH.ixl0, VH.ixl1, VH.tup0, VH.tup1, VH.tup2, VH.tup3, VH.lst0, VH.lst1, VH.lst2, VH.lst3, VH.len_list, VH.len_tuple, VH.items_list, VH.items_tuple, fzK, vals_nil]
    have rest : ∀ (bs : List Atom) (A : D) (u3 u4 u5 : Option O), ∃ w3 w4 w5, loopS (tgN 3) (L2_all_valuations r_rows_for) (bs.map atD) [some (.sh (emD s)), some (.sh A), some (.sh (.list [])), u3, u4, u5, none, none] = .ok .nx [some (.sh (emD s)), some (.sh A), some (.sh (.list [])), w3, w4, w5, none, none] := by
      intro bs
      induction bs with
      | nil => intro A u3 u4 u5; exact ⟨u3, u4, u5, rfl⟩
      | cons b bs ih =>
        intro A u3 u4 u5
        obtain ⟨w3, w4, w5, e⟩ := ih A (some (.sh (atD b))) (some (.sh (.dict []))) u5
        refine ⟨w3, w4, w5, ?_⟩
        have hb : L2_all_valuations r_rows_for [some (.sh (emD s)), some (.sh A), some (.sh (.list [])), some (.sh (atD b)), u4, u5, none, none] = .ok .nx [some (.sh (emD s)), some (.sh A), some (.sh (.list [])), some (.sh (atD b)), some (.sh (.dict [])), u5, none, none] := by
          simp only [pr_run, out, oR, sSeq, sIf, eP, ePk, ePkT, eFr, frzS, frz1, shE, VH.shS_sh, VH.shS_lst, VH.shS_dic, VH.shS_scr, VH.shS_none, pVar, pC, pBin, pChain, pUn, pMap, pB, pTru, pNN, pNNo, pAnd, pOr, pNot, pAndV, pOrV, pNotV, pIf, pNil, pCons, pAll, pPart, pPart0, pSl, pM1, pSeq, pSeq2, pCall_pr, pGet2, pGet3, isDic, Pr.bind, Pr.lift, eAnd, eOr, eNot, eB, bnd, eBin, eUn, eSub, eC, VH.ret, lift, eVar, eSh, eFz, sSet, sRet, sPut, sAsg, sPar, sPar3, sFz, tgN, tgT, tgSeq, eAll, eCons, eNil, eIf, sDo, sApp, sExt, sNext, oLst, oAdd, oIf, oList, oDic0, eMov, eSl, ePart, eCallU, aNil, aVal, aBor, takeA, putA, sRaise, List.getElem?_cons_zero, List.getElem?_cons_succ, List.set_cons_zero, List.set_cons_succ, Nat.reduceSub, Nat.reduceAdd, Nat.reduceLT, Nat.reduceLeDiff, Option.bind, Option.map, O.fzb, O.fzbK, fz, blD, VH.isN_none, VH.isN_int, VH.isN_str, VH.isN_bool, VH.isN_tup, VH.isN_lst, VH.isN_dic, vi_int, vi_bool, vi_str, vi_tuple, vi_list, vi_dict, truD, flR, flRA, List.map_cons, List.map_nil, List.replicate, List.cons_append, List.nil_append, List.length_cons, List.length_nil, if_true, if_false, ite_true, ite_false, Bool.false_eq_true, decide_true, decide_false, beq_self_eq_true, Bool.not_true, Bool.not_false, and_self, and_true, true_and, and_false, false_and, Bool.or_true, Bool.true_or, Bool.or_false, Bool.false_or, Bool.and_true, Bool.and_false, Bool.true_and, Bool.false_and, ne_eq, not_false_eq_true, not_true_eq_false, reduceCtorEq, VH.eq_str, VH.ne_str, VH.eq_int, VH.ne_int, VH.add_int, VH.le_int, VH.lt_int, VH.gt_int, VH.ge_int, VH.ixt0, VH.ixt1, VH.ixt2, VH.ixl0, VH.ixl1, VH.tup0, VH.tup1, VH.tup2, VH.tup3, VH.lst0, VH.lst1, VH.lst2, VH.lst3, VH.len_list, VH.len_tuple, VH.items_list, VH.items_tuple, L2_all_valuations, sFor, loop_nil, fzK, vals_nil]
        rw [List.map_cons]
        unfold loopS
        rw [show tgN 3 (atD b) [some (.sh (emD s)), some (.sh A), some (.sh (.list [])), u3, u4, u5, none, none] = some [some (.sh (emD s)), some (.sh A), some (.sh (.list [])), some (.sh (atD b)), u4, u5, none, none] from rfl]
        dsimp only
        rw [hb]
        exact e
    obtain ⟨w3, w4, w5, e2⟩ := rest as (.tuple ((a :: as).map atD)) (some (.sh (atD a))) (some (.sh (.dict []))) (some (.sh (.dict [])))
    rw [pr_run]
    simp only [List.map_cons, List.map_nil, List.length_cons, List.length_nil, Nat.reduceSub, Nat.reduceAdd, List.replicate, List.cons_append, List.nil_append]
    rw [seq_ok (e := [some (.sh (emD s)), some (.sh (.tuple (atD a :: as.map atD))), some (.sh (.list [.dict []])), none, none, none, none, none])]
    rotate_left
    · simp only [pr_run, out, oR, sSeq, sIf, eP, ePk, ePkT, eFr, frzS, frz1, shE, VH.shS_sh, VH.shS_lst, VH.shS_dic, VH.shS_scr, VH.shS_none, pVar, pC, pBin, pChain, pUn, pMap, pB, pTru, pNN, pNNo, pAnd, pOr, pNot, pAndV, pOrV, pNotV, pIf, pNil, pCons, pAll, pPart, pPart0, pSl, pM1, pSeq, pSeq2, pCall_pr, pGet2, pGet3, isDic, Pr.bind, Pr.lift, eAnd, eOr, eNot, eB, bnd, eBin, eUn, eSub, eC, VH.ret, lift, eVar, eSh, eFz, sSet, sRet, sPut, sAsg, sPar, sPar3, sFz, tgN, tgT, tgSeq, eAll, eCons, eNil, eIf, sDo, sApp, sExt, sNext, oLst, oAdd, oIf, oList, oDic0, eMov, eSl, ePart, eCallU, aNil, aVal, aBor, takeA, putA, sRaise, List.getElem?_cons_zero, List.getElem?_cons_succ, List.set_cons_zero, List.set_cons_succ, Nat.reduceSub, Nat.reduceAdd, Nat.reduceLT, Nat.reduceLeDiff, Option.bind, Option.map, O.fzb, O.fzbK, fz, blD, VH.isN_none, VH.isN_int, VH.isN_str, VH.isN_bool, VH.isN_tup, VH.isN_lst, VH.isN_dic, vi_int, vi_bool, vi_str, vi_tuple, vi_list, vi_dict, truD, flR, flRA, List.map_cons, List.map_nil, List.replicate, List.cons_append, List.nil_append, List.length_cons, List.length_nil, if_true, if_false, ite_true, ite_false, Bool.false_eq_true, decide_true, decide_false, beq_self_eq_true, Bool.not_true, Bool.not_false, and_self, and_true, true_and, and_false, false_and, Bool.or_true, Bool.true_or, Bool.or_false, Bool.false_or, Bool.and_true, Bool.and_false, Bool.true_and, Bool.false_and, ne_eq, not_false_eq_true, not_true_eq_false, reduceCtorEq, VH.eq_str, VH.ne_str, VH.eq_int, VH.ne_int, VH.add_int, VH.le_int, VH.lt_int, VH.gt_int, VH.ge_int, VH.ixt0, VH.ixt1, VH.ixt2, VH.ixl0, VH.ixl1, VH.tup0, VH.tup1, VH.tup2, VH.tup3, VH.lst0, VH.lst1, VH.lst2, VH.lst3, VH.len_list, VH.len_tuple, VH.items_list, VH.items_tuple]
    rw [seq_ok (e := [some (.sh (emD s)), some (.sh (.tuple (atD a :: as.map atD))), some (.sh (.list [])), w3, w4, w5, none, none])]
    rotate_left
    · rw [for_eq (items := atD a :: as.map atD)]
      · unfold loopS
        rw [show tgN 3 (atD a) [some (.sh (emD s)), some (.sh (.tuple (atD a :: as.map atD))), some (.sh (.list [.dict []])), none, none, none, none, none] = some [some (.sh (emD s)), some (.sh (.tuple (atD a :: as.map atD))), some (.sh (.list [.dict []])), some (.sh (atD a)), none, none, none, none] from rfl]
        dsimp only
        rw [List.map_cons] at first e2
        rw [first]
        exact e2
      · simp only [pr_run, out, oR, sSeq, sIf, eP, ePk, ePkT, eFr, frzS, frz1, shE, VH.shS_sh, VH.shS_lst, VH.shS_dic, VH.shS_scr, VH.shS_none, pVar, pC, pBin, pChain, pUn, pMap, pB, pTru, pNN, pNNo, pAnd, pOr, pNot, pAndV, pOrV, pNotV, pIf, pNil, pCons, pAll, pPart, pPart0, pSl, pM1, pSeq, pSeq2, pCall_pr, pGet2, pGet3, isDic, Pr.bind, Pr.lift, eAnd, eOr, eNot, eB, bnd, eBin, eUn, eSub, eC, VH.ret, lift, eVar, eSh, eFz, sSet, sRet, sPut, sAsg, sPar, sPar3, sFz, tgN, tgT, tgSeq, eAll, eCons, eNil, eIf, sDo, sApp, sExt, sNext, oLst, oAdd, oIf, oList, oDic0, eMov, eSl, ePart, eCallU, aNil, aVal, aBor, takeA, putA, sRaise, List.getElem?_cons_zero, List.getElem?_cons_succ, List.set_cons_zero, List.set_cons_succ, Nat.reduceSub, Nat.reduceAdd, Nat.reduceLT, Nat.reduceLeDiff, Option.bind, Option.map, O.fzb, O.fzbK, fz, blD, VH.isN_none, VH.isN_int, VH.isN_str, VH.isN_bool, VH.isN_tup, VH.isN_lst, VH.isN_dic, vi_int, vi_bool, vi_str, vi_tuple, vi_list, vi_dict, truD, flR, flRA, List.map_cons, List.map_nil, List.replicate, List.cons_append, List.nil_append, List.length_cons, List.length_nil, if_true, if_false, ite_true, ite_false, Bool.false_eq_true, decide_true, decide_false, beq_self_eq_true, Bool.not_true, Bool.not_false, and_self, and_true, true_and, and_false, false_and, Bool.or_true, Bool.true_or, Bool.or_false, Bool.false_or, Bool.and_true, Bool.and_false, Bool.true_and, Bool.false_and, ne_eq, not_false_eq_true, not_true_eq_false, reduceCtorEq, VH.eq_str, VH.ne_str, VH.eq_int, VH.ne_int, VH.add_int, VH.le_int, VH.lt_int, VH.gt_int, VH.ge_int, VH.ixt0, VH.ixt1, VH.ixt2, VH.ixl0, VH.ixl1, VH.tup0, VH.tup1, VH.tup2, VH.tup3, VH.lst0, VH.lst1, VH.lst2, VH.lst3, VH.len_list, VH.len_tuple, VH.items_list, VH.items_tuple]
    simp only [pr_run, out, oR, sSeq, sIf, eP, ePk, ePkT, eFr, frzS, frz1, shE, VH.shS_sh, VH.shS_lst, VH.shS_dic, VH.shS_scr, VH.shS_none, pVar, pC, pBin, pChain, pUn, pMap, pB, pTru, pNN, pNNo, pAnd, pOr, pNot, pAndV, pOrV, pNotV, pIf, pNil, pCons, pAll, pPart, pPart0, pSl, pM1, pSeq, pSeq2, pCall_pr, pGet2, pGet3, isDic, Pr.bind, Pr.lift, eAnd, eOr, eNot, eB, bnd, eBin, eUn, eSub, eC, VH.ret, lift, eVar, eSh, eFz, sSet, sRet, sPut, sAsg, sPar, sPar3, sFz, tgN, tgT, tgSeq, eAll, eCons, eNil, eIf, sDo, sApp, sExt, sNext, oLst, oAdd, oIf, oList, oDic0, eMov, eSl, ePart, eCallU, aNil, aVal, aBor, takeA, putA, sRaise, List.getElem?_cons_zero, List.getElem?_cons_succ, List.set_cons_zero, List.set_cons_succ, Nat.reduceSub, Nat.reduceAdd, Nat.reduceLT, Nat.reduceLeDiff, Option.bind, Option.map, O.fzb, O.fzbK, fz, blD, VH.isN_none, VH.isN_int, VH.isN_str, VH.isN_bool, VH.isN_tup, VH.isN_lst, VH.isN_dic, vi_int, vi_bool, vi_str, vi_tuple, vi_list, vi_dict, truD, flR, flRA, List.map_cons, List.map_nil, List.replicate, List.cons_append, List.nil_append, List.length_cons, List.length_nil, if_true, if_false, ite_true, ite_false, Bool.false_eq_true, decide_true, decide_false, beq_self_eq_true, Bool.not_true, Bool.not_false, and_self, and_true, true_and, and_false, false_and, Bool.or_true, Bool.true_or, Bool.or_false, Bool.false_or, Bool.and_true, Bool.and_false, Bool.true_and, Bool.false_and, ne_eq, not_false_eq_true, not_true_eq_false, reduceCtorEq, VH.eq_str, VH.ne_str, VH.eq_int, VH.ne_int, VH.add_int, VH.le_int, VH.lt_int, VH.gt_int, VH.ge_int, VH.ixt0, VH.ixt1, VH.ixt2, VH.ixl0, VH.ixl1, VH.tup0, VH.tup1, VH.tup2, VH.tup3, VH.lst0, VH.lst1, VH.lst2, VH.lst3, VH.len_list, VH.len_tuple, VH.items_list, VH.items_tuple]
end K67
set_option Elab.async false
set_option linter.all false
set_option maxRecDepth 100000
set_option maxHeartbeats 4000000
namespace K67
open PySem PySem.Spec PyProof.Rows L2 VH VC
theorem ix_q1 (q : Qn) : idxD (qD q) (.int 1) = some (.tuple (q.atoms.map atD)) := VH.ixt1 _ _ _
theorem ix_q0 (q : Qn) : idxD (qD q) (.int 0) = some (.tuple (q.head.map .str)) := VH.ixt0 _ _
def r_plain : List O → Rs O := fnRun bs_plain_answer 5 (b_plain_answer r_check_question r_all_val)
theorem sort_nil : sortDD [.dict []] = some (.list []) := by simp [sortDD, keysS, sortS]
def Gq (q : Qn) : Prop := (∀ a ∈ q.atoms, AOk a) ∧ total q.atoms ≤ 1000
theorem passed {s : Sch} (k : Sk s) {q : Qn} (h : checkQ s q = none) : (∀ a ∈ q.atoms, POk s a) ∧ q.atoms ≠ [] := by
  unfold checkQ at h
  split at h
  · cases h
  · rename_i hz
    split at h
    · rename_i ht
      split at h
      · rename_i hm
        refine ⟨fun a ha => ?_, fun e => ?_⟩
        · obtain ⟨cs, hc⟩ := Option.isSome_iff_exists.mp (show (s.lookup a.1).isSome = true from List.all_eq_true.mp ht a ha)
          refine ⟨⟨cs, hc⟩, ?_⟩
          have h1 : termsFit a.2 (colsOf s a.1) = true := List.all_eq_true.mp hm a ha
          have hcol : colsOf s a.1 = cs := by unfold colsOf; rw [hc]; rfl
          rw [hcol] at h1
          obtain ⟨c, r, e, hn⟩ := k.key _ (lookup_in hc)
          dsimp only at e
          subst e
          unfold termsFit at h1
          have h2 := Bool.and_eq_true_iff.mp h1
          have hl : a.2.length = (c :: r).length := of_decide_eq_true h2.1
          cases ha2 : a.2 with
          | nil => rw [ha2] at hl; cases hl
          | cons t ts =>
            rw [ha2] at h2
            have h3 : termFits t c = true := (Bool.and_eq_true_iff.mp (show (termFits t c && _) = true from h2.2)).1
            refine ⟨t, ts, rfl, ?_⟩
            cases t with
            | any => exact absurd (show c.null = true from h3) (by rw [hn]; exact Bool.false_ne_true)
            | is v =>
              cases v with
              | none => cases h3
              | some k => exact .inr ⟨k, rfl⟩
            | var x => exact .inl ⟨x, rfl⟩
        · apply hz
          unfold sizeBad
          rw [e]; rfl
      · cases h
    · cases h
theorem p_plain {s : Sch} (k : Sk s) {q : Qn} (g : Gq q) : pr (r_plain [.sh (scD s), .sh (emD s), .sh (qD q)]) = match checkQ s q with
    | none => .ok (.list [])
    | some c => .exc (codeX c) := by
  have e0 := VC.p_check_question (s := s) g.1 g.2
  unfold r_plain b_plain_answer
  cases hc : checkQ s q with
  | some c =>
    rw [hc] at e0
    simp only [pr_run, out, oR, sSeq, sIf, eP, ePk, ePkT, eFr, frzS, frz1, shE, VH.shS_sh, VH.shS_lst, VH.shS_dic, VH.shS_scr, VH.shS_none, pVar, pC, pBin, pChain, pUn, pMap, pB, pTru, pNN, pNNo, pAnd, pOr, pNot, pAndV, pOrV, pNotV, pIf, pNil, pCons, pAll, pPart, pPart0, pSl, pM1, pSeq, pSeq2, pCall_pr, pGet2, pGet3, isDic, Pr.bind, Pr.lift, eAnd, eOr, eNot, eB, bnd, eBin, eUn, eSub, eC, VH.ret, lift, eVar, eSh, eFz, sSet, sRet, sPut, sAsg, sPar, sPar3, sFz, tgN, tgT, tgSeq, eAll, eCons, eNil, eIf, sDo, sApp, sExt, sNext, oLst, oAdd, oIf, oList, oDic0, eMov, eSl, ePart, eCallU, aNil, aVal, aBor, takeA, putA, sRaise, List.getElem?_cons_zero, List.getElem?_cons_succ, List.set_cons_zero, List.set_cons_succ, Nat.reduceSub, Nat.reduceAdd, Nat.reduceLT, Nat.reduceLeDiff, Option.bind, Option.map, O.fzb, O.fzbK, fz, blD, VH.isN_none, VH.isN_int, VH.isN_str, VH.isN_bool, VH.isN_tup, VH.isN_lst, VH.isN_dic, vi_int, vi_bool, vi_str, vi_tuple, vi_list, vi_dict, truD, flR, flRA, List.map_cons, List.map_nil, List.replicate, List.cons_append, List.nil_append, List.length_cons, List.length_nil, if_true, if_false, ite_true, ite_false, Bool.false_eq_true, decide_true, decide_false, beq_self_eq_true, Bool.not_true, Bool.not_false, and_self, and_true, true_and, and_false, false_and, Bool.or_true, Bool.true_or, Bool.or_false, Bool.false_or, Bool.and_true, Bool.and_false, Bool.true_and, Bool.false_and, ne_eq, not_false_eq_true, not_true_eq_false, reduceCtorEq, VH.eq_str, VH.ne_str, VH.eq_int, VH.ne_int, VH.add_int, VH.le_int, VH.lt_int, VH.gt_int, VH.ge_int, VH.ixt0, VH.ixt1, VH.ixt2, VH.ixl0, VH.ixl1, VH.tup0, VH.tup1, VH.tup2, VH.tup3, VH.lst0, VH.lst1, VH.lst2, VH.lst3, VH.len_list, VH.len_tuple, VH.items_list, VH.items_tuple, e0, checkP]
  | none =>
    rw [hc] at e0
    obtain ⟨h1, h2⟩ := passed k hc
    have e1 := p_allval h1 h2
    have eq := ix_q1 q
    simp only [pr_run, out, oR, sSeq, sIf, eP, ePk, ePkT, eFr, frzS, frz1, shE, VH.shS_sh, VH.shS_lst, VH.shS_dic, VH.shS_scr, VH.shS_none, pVar, pC, pBin, pChain, pUn, pMap, pB, pTru, pNN, pNNo, pAnd, pOr, pNot, pAndV, pOrV, pNotV, pIf, pNil, pCons, pAll, pPart, pPart0, pSl, pM1, pSeq, pSeq2, pCall_pr, pGet2, pGet3, isDic, Pr.bind, Pr.lift, eAnd, eOr, eNot, eB, bnd, eBin, eUn, eSub, eC, VH.ret, lift, eVar, eSh, eFz, sSet, sRet, sPut, sAsg, sPar, sPar3, sFz, tgN, tgT, tgSeq, eAll, eCons, eNil, eIf, sDo, sApp, sExt, sNext, oLst, oAdd, oIf, oList, oDic0, eMov, eSl, ePart, eCallU, aNil, aVal, aBor, takeA, putA, sRaise, List.getElem?_cons_zero, List.getElem?_cons_succ, List.set_cons_zero, List.set_cons_succ, Nat.reduceSub, Nat.reduceAdd, Nat.reduceLT, Nat.reduceLeDiff, Option.bind, Option.map, O.fzb, O.fzbK, fz, blD, VH.isN_none, VH.isN_int, VH.isN_str, VH.isN_bool, VH.isN_tup, VH.isN_lst, VH.isN_dic, vi_int, vi_bool, vi_str, vi_tuple, vi_list, vi_dict, truD, flR, flRA, List.map_cons, List.map_nil, List.replicate, List.cons_append, List.nil_append, List.length_cons, List.length_nil, if_true, if_false, ite_true, ite_false, Bool.false_eq_true, decide_true, decide_false, beq_self_eq_true, Bool.not_true, Bool.not_false, and_self, and_true, true_and, and_false, false_and, Bool.or_true, Bool.true_or, Bool.or_false, Bool.false_or, Bool.and_true, Bool.and_false, Bool.true_and, Bool.false_and, ne_eq, not_false_eq_true, not_true_eq_false, reduceCtorEq, VH.eq_str, VH.ne_str, VH.eq_int, VH.ne_int, VH.add_int, VH.le_int, VH.lt_int, VH.gt_int, VH.ge_int, VH.ixt0, VH.ixt1, VH.ixt2, VH.ixl0, VH.ixl1, VH.tup0, VH.tup1, VH.tup2, VH.tup3, VH.lst0, VH.lst1, VH.lst2, VH.lst3, VH.len_list, VH.len_tuple, VH.items_list, VH.items_tuple, e0, checkP, sFor, eq, e1, loop_nil, fzK, sort_nil]
def r_code : List O → Rs O := fnRun bs__law_code 5 (b__law_code r_check_question r_plain r_law_empty)
def codeS : Option Str → Str
  | none => Str.ofString "fine"
  | some c => c
theorem code_lookup (c : Str) : List.lookup (Str.ofString "code") (codeX c).fs = some (.str c) := by
  unfold codeX
  rw [List.lookup_cons]
  simp
theorem code_cls (c : Str) : (codeX c).cls = Str.ofString "QuestionError" := rfl
theorem rng_two : rng1D (.int 2) = some [.int 0, .int 1] := by rfl
theorem code_turn {s : Sch} (k : Sk s) {q : Qn} (g : Gq q) (n : Int) (hn : n = 0 ∨ n = 1) (fs : List D) (hf : fs.length ≤ 100) : L1__law_code r_check_question r_plain r_law_empty [some (.sh (scD s)), some (.sh (qD q)), some (.lst fs), some (.sh (.int n)), none] =
    .ok .nx [some (.sh (scD s)), some (.sh (qD q)), some (.lst (fs ++ [.str (codeS (checkQ s q))])), some (.sh (.int n)), none] := by
  have e0 := VC.p_check_question (s := s) g.1 g.2
  have e1 := p_plain k g
  have e2 := p_empty k
  have hl : fs.length < sizeLine := line_1000 (by omega)
  unfold L1__law_code
  cases hc : checkQ s q with
  | none =>
    rw [hc] at e0 e1
    dsimp only at e1
    rcases hn with rfl | rfl
    · simp only [pr_run, out, oR, sSeq, sIf, eP, ePk, ePkT, eFr, frzS, frz1, shE, VH.shS_sh, VH.shS_lst, VH.shS_dic, VH.shS_scr, VH.shS_none, pVar, pC, pBin, pChain, pUn, pMap, pB, pTru, pNN, pNNo, pAnd, pOr, pNot, pAndV, pOrV, pNotV, pIf, pNil, pCons, pAll, pPart, pPart0, pSl, pM1, pSeq, pSeq2, pCall_pr, pGet2, pGet3, isDic, Pr.bind, Pr.lift, eAnd, eOr, eNot, eB, bnd, eBin, eUn, eSub, eC, VH.ret, lift, eVar, eSh, eFz, sSet, sRet, sPut, sAsg, sPar, sPar3, sFz, tgN, tgT, tgSeq, eAll, eCons, eNil, eIf, sDo, sApp, sExt, sNext, oLst, oAdd, oIf, oList, oDic0, eMov, eSl, ePart, eCallU, aNil, aVal, aBor, takeA, putA, sRaise, List.getElem?_cons_zero, List.getElem?_cons_succ, List.set_cons_zero, List.set_cons_succ, Nat.reduceSub, Nat.reduceAdd, Nat.reduceLT, Nat.reduceLeDiff, Option.bind, Option.map, O.fzb, O.fzbK, fz, blD, VH.isN_none, VH.isN_int, VH.isN_str, VH.isN_bool, VH.isN_tup, VH.isN_lst, VH.isN_dic, vi_int, vi_bool, vi_str, vi_tuple, vi_list, vi_dict, truD, flR, flRA, List.map_cons, List.map_nil, List.replicate, List.cons_append, List.nil_append, List.length_cons, List.length_nil, if_true, if_false, ite_true, ite_false, Bool.false_eq_true, decide_true, decide_false, beq_self_eq_true, Bool.not_true, Bool.not_false, and_self, and_true, true_and, and_false, false_and, Bool.or_true, Bool.true_or, Bool.or_false, Bool.false_or, Bool.and_true, Bool.and_false, Bool.true_and, Bool.false_and, ne_eq, not_false_eq_true, not_true_eq_false, reduceCtorEq, VH.eq_str, VH.ne_str, VH.eq_int, VH.ne_int, VH.add_int, VH.le_int, VH.lt_int, VH.gt_int, VH.ge_int, VH.ixt0, VH.ixt1, VH.ixt2, VH.ixl0, VH.ixl1, VH.tup0, VH.tup1, VH.tup2, VH.tup3, VH.lst0, VH.lst1, VH.lst2, VH.lst3, VH.len_list, VH.len_tuple, VH.items_list, VH.items_tuple, sTry, e0, checkP, hl, codeS]
    · have h1 : ((1 : Int) == 0) = false := rfl
      simp only [pr_run, out, oR, sSeq, sIf, eP, ePk, ePkT, eFr, frzS, frz1, shE, VH.shS_sh, VH.shS_lst, VH.shS_dic, VH.shS_scr, VH.shS_none, pVar, pC, pBin, pChain, pUn, pMap, pB, pTru, pNN, pNNo, pAnd, pOr, pNot, pAndV, pOrV, pNotV, pIf, pNil, pCons, pAll, pPart, pPart0, pSl, pM1, pSeq, pSeq2, pCall_pr, pGet2, pGet3, isDic, Pr.bind, Pr.lift, eAnd, eOr, eNot, eB, bnd, eBin, eUn, eSub, eC, VH.ret, lift, eVar, eSh, eFz, sSet, sRet, sPut, sAsg, sPar, sPar3, sFz, tgN, tgT, tgSeq, eAll, eCons, eNil, eIf, sDo, sApp, sExt, sNext, oLst, oAdd, oIf, oList, oDic0, eMov, eSl, ePart, eCallU, aNil, aVal, aBor, takeA, putA, sRaise, List.getElem?_cons_zero, List.getElem?_cons_succ, List.set_cons_zero, List.set_cons_succ, Nat.reduceSub, Nat.reduceAdd, Nat.reduceLT, Nat.reduceLeDiff, Option.bind, Option.map, O.fzb, O.fzbK, fz, blD, VH.isN_none, VH.isN_int, VH.isN_str, VH.isN_bool, VH.isN_tup, VH.isN_lst, VH.isN_dic, vi_int, vi_bool, vi_str, vi_tuple, vi_list, vi_dict, truD, flR, flRA, List.map_cons, List.map_nil, List.replicate, List.cons_append, List.nil_append, List.length_cons, List.length_nil, if_true, if_false, ite_true, ite_false, Bool.false_eq_true, decide_true, decide_false, beq_self_eq_true, Bool.not_true, Bool.not_false, and_self, and_true, true_and, and_false, false_and, Bool.or_true, Bool.true_or, Bool.or_false, Bool.false_or, Bool.and_true, Bool.and_false, Bool.true_and, Bool.false_and, ne_eq, not_false_eq_true, not_true_eq_false, reduceCtorEq, VH.eq_str, VH.ne_str, VH.eq_int, VH.ne_int, VH.add_int, VH.le_int, VH.lt_int, VH.gt_int, VH.ge_int, VH.ixt0, VH.ixt1, VH.ixt2, VH.ixl0, VH.ixl1, VH.tup0, VH.tup1, VH.tup2, VH.tup3, VH.lst0, VH.lst1, VH.lst2, VH.lst3, VH.len_list, VH.len_tuple, VH.items_list, VH.items_tuple, sTry, h1, e1, e2, hl, codeS]
  | some c =>
    rw [hc] at e0 e1
    dsimp only at e1
    dsimp only [checkP] at e0
    have hx := code_lookup c
    have hx2 := code_cls c
    generalize codeX c = X at *
    rcases hn with rfl | rfl
    · simp only [pr_run, out, oR, sSeq, sIf, eP, ePk, ePkT, eFr, frzS, frz1, shE, VH.shS_sh, VH.shS_lst, VH.shS_dic, VH.shS_scr, VH.shS_none, pVar, pC, pBin, pChain, pUn, pMap, pB, pTru, pNN, pNNo, pAnd, pOr, pNot, pAndV, pOrV, pNotV, pIf, pNil, pCons, pAll, pPart, pPart0, pSl, pM1, pSeq, pSeq2, pCall_pr, pGet2, pGet3, isDic, Pr.bind, Pr.lift, eAnd, eOr, eNot, eB, bnd, eBin, eUn, eSub, eC, VH.ret, lift, eVar, eSh, eFz, sSet, sRet, sPut, sAsg, sPar, sPar3, sFz, tgN, tgT, tgSeq, eAll, eCons, eNil, eIf, sDo, sApp, sExt, sNext, oLst, oAdd, oIf, oList, oDic0, eMov, eSl, ePart, eCallU, aNil, aVal, aBor, takeA, putA, sRaise, List.getElem?_cons_zero, List.getElem?_cons_succ, List.set_cons_zero, List.set_cons_succ, Nat.reduceSub, Nat.reduceAdd, Nat.reduceLT, Nat.reduceLeDiff, Option.bind, Option.map, O.fzb, O.fzbK, fz, blD, VH.isN_none, VH.isN_int, VH.isN_str, VH.isN_bool, VH.isN_tup, VH.isN_lst, VH.isN_dic, vi_int, vi_bool, vi_str, vi_tuple, vi_list, vi_dict, truD, flR, flRA, List.map_cons, List.map_nil, List.replicate, List.cons_append, List.nil_append, List.length_cons, List.length_nil, if_true, if_false, ite_true, ite_false, Bool.false_eq_true, decide_true, decide_false, beq_self_eq_true, Bool.not_true, Bool.not_false, and_self, and_true, true_and, and_false, false_and, Bool.or_true, Bool.true_or, Bool.or_false, Bool.false_or, Bool.and_true, Bool.and_false, Bool.true_and, Bool.false_and, ne_eq, not_false_eq_true, not_true_eq_false, reduceCtorEq, VH.eq_str, VH.ne_str, VH.eq_int, VH.ne_int, VH.add_int, VH.le_int, VH.lt_int, VH.gt_int, VH.ge_int, VH.ixt0, VH.ixt1, VH.ixt2, VH.ixl0, VH.ixl1, VH.tup0, VH.tup1, VH.tup2, VH.tup3, VH.lst0, VH.lst1, VH.lst2, VH.lst3, VH.len_list, VH.len_tuple, VH.items_list, VH.items_tuple, sTry, e0, checkP, hx2, xApp, hx, hl, codeS]
    · have h1 : ((1 : Int) == 0) = false := rfl
      simp only [pr_run, out, oR, sSeq, sIf, eP, ePk, ePkT, eFr, frzS, frz1, shE, VH.shS_sh, VH.shS_lst, VH.shS_dic, VH.shS_scr, VH.shS_none, pVar, pC, pBin, pChain, pUn, pMap, pB, pTru, pNN, pNNo, pAnd, pOr, pNot, pAndV, pOrV, pNotV, pIf, pNil, pCons, pAll, pPart, pPart0, pSl, pM1, pSeq, pSeq2, pCall_pr, pGet2, pGet3, isDic, Pr.bind, Pr.lift, eAnd, eOr, eNot, eB, bnd, eBin, eUn, eSub, eC, VH.ret, lift, eVar, eSh, eFz, sSet, sRet, sPut, sAsg, sPar, sPar3, sFz, tgN, tgT, tgSeq, eAll, eCons, eNil, eIf, sDo, sApp, sExt, sNext, oLst, oAdd, oIf, oList, oDic0, eMov, eSl, ePart, eCallU, aNil, aVal, aBor, takeA, putA, sRaise, List.getElem?_cons_zero, List.getElem?_cons_succ, List.set_cons_zero, List.set_cons_succ, Nat.reduceSub, Nat.reduceAdd, Nat.reduceLT, Nat.reduceLeDiff, Option.bind, Option.map, O.fzb, O.fzbK, fz, blD, VH.isN_none, VH.isN_int, VH.isN_str, VH.isN_bool, VH.isN_tup, VH.isN_lst, VH.isN_dic, vi_int, vi_bool, vi_str, vi_tuple, vi_list, vi_dict, truD, flR, flRA, List.map_cons, List.map_nil, List.replicate, List.cons_append, List.nil_append, List.length_cons, List.length_nil, if_true, if_false, ite_true, ite_false, Bool.false_eq_true, decide_true, decide_false, beq_self_eq_true, Bool.not_true, Bool.not_false, and_self, and_true, true_and, and_false, false_and, Bool.or_true, Bool.true_or, Bool.or_false, Bool.false_or, Bool.and_true, Bool.and_false, Bool.true_and, Bool.false_and, ne_eq, not_false_eq_true, not_true_eq_false, reduceCtorEq, VH.eq_str, VH.ne_str, VH.eq_int, VH.ne_int, VH.add_int, VH.le_int, VH.lt_int, VH.gt_int, VH.ge_int, VH.ixt0, VH.ixt1, VH.ixt2, VH.ixl0, VH.ixl1, VH.tup0, VH.tup1, VH.tup2, VH.tup3, VH.lst0, VH.lst1, VH.lst2, VH.lst3, VH.len_list, VH.len_tuple, VH.items_list, VH.items_tuple, sTry, h1, e1, e2, hx2, xApp, hx, hl, codeS]
theorem p_code {s : Sch} (k : Sk s) {q : Qn} (g : Gq q) : pr (r_code [.sh (scD s), .sh (qD q)]) = .ok (.str (codeS (checkQ s q))) := by
  unfold r_code b__law_code
  have t0 := code_turn k g 0 (.inl rfl) [] (by simp)
  have t1 := code_turn k g 1 (.inr rfl) [.str (codeS (checkQ s q))] (by simp)
  generalize codeS (checkQ s q) = c at *
  rw [pr_run]
  simp only [List.map_cons, List.map_nil, List.length_cons, List.length_nil, Nat.reduceSub, Nat.reduceAdd, List.replicate, List.cons_append, List.nil_append]
  rw [seq_ok (e := [some (.sh (scD s)), some (.sh (qD q)), some (.lst []), none, none])]
  rotate_left
  · simp only [pr_run, out, oR, sSeq, sIf, eP, ePk, ePkT, eFr, frzS, frz1, shE, VH.shS_sh, VH.shS_lst, VH.shS_dic, VH.shS_scr, VH.shS_none, pVar, pC, pBin, pChain, pUn, pMap, pB, pTru, pNN, pNNo, pAnd, pOr, pNot, pAndV, pOrV, pNotV, pIf, pNil, pCons, pAll, pPart, pPart0, pSl, pM1, pSeq, pSeq2, pCall_pr, pGet2, pGet3, isDic, Pr.bind, Pr.lift, eAnd, eOr, eNot, eB, bnd, eBin, eUn, eSub, eC, VH.ret, lift, eVar, eSh, eFz, sSet, sRet, sPut, sAsg, sPar, sPar3, sFz, tgN, tgT, tgSeq, eAll, eCons, eNil, eIf, sDo, sApp, sExt, sNext, oLst, oAdd, oIf, oList, oDic0, eMov, eSl, ePart, eCallU, aNil, aVal, aBor, takeA, putA, sRaise, List.getElem?_cons_zero, List.getElem?_cons_succ, List.set_cons_zero, List.set_cons_succ, Nat.reduceSub, Nat.reduceAdd, Nat.reduceLT, Nat.reduceLeDiff, Option.bind, Option.map, O.fzb, O.fzbK, fz, blD, VH.isN_none, VH.isN_int, VH.isN_str, VH.isN_bool, VH.isN_tup, VH.isN_lst, VH.isN_dic, vi_int, vi_bool, vi_str, vi_tuple, vi_list, vi_dict, truD, flR, flRA, List.map_cons, List.map_nil, List.replicate, List.cons_append, List.nil_append, List.length_cons, List.length_nil, if_true, if_false, ite_true, ite_false, Bool.false_eq_true, decide_true, decide_false, beq_self_eq_true, Bool.not_true, Bool.not_false, and_self, and_true, true_and, and_false, false_and, Bool.or_true, Bool.true_or, Bool.or_false, Bool.false_or, Bool.and_true, Bool.and_false, Bool.true_and, Bool.false_and, ne_eq, not_false_eq_true, not_true_eq_false, reduceCtorEq, VH.eq_str, VH.ne_str, VH.eq_int, VH.ne_int, VH.add_int, VH.le_int, VH.lt_int, VH.gt_int, VH.ge_int, VH.ixt0, VH.ixt1, VH.ixt2, VH.ixl0, VH.ixl1, VH.tup0, VH.tup1, VH.tup2, VH.tup3, VH.lst0, VH.lst1, VH.lst2, VH.lst3, VH.len_list, VH.len_tuple, VH.items_list, VH.items_tuple, Nat.zero_le]
  rw [seq_ok (e := [some (.sh (scD s)), some (.sh (qD q)), some (.lst [.str c, .str c]), some (.sh (.int 1)), none])]
  rotate_left
  · rw [for_eq (items := [.int 0, .int 1])]
    · unfold loopS
      rw [show tgN 3 (.int 0) [some (.sh (scD s)), some (.sh (qD q)), some (.lst []), none, none] = some [some (.sh (scD s)), some (.sh (qD q)), some (.lst []), some (.sh (.int 0)), none] from rfl]
      dsimp only
      rw [t0]
      dsimp only
      unfold loopS
      rw [show tgN 3 (.int 1) [some (.sh (scD s)), some (.sh (qD q)), some (.lst ([] ++ [.str c])), some (.sh (.int 0)), none] = some [some (.sh (scD s)), some (.sh (qD q)), some (.lst [.str c]), some (.sh (.int 1)), none] from rfl]
      dsimp only
      rw [t1]
      rfl
    · exact pSeq_eq (d := .int 2) rfl rng_two
  simp only [pr_run, out, oR, sSeq, sIf, eP, ePk, ePkT, eFr, frzS, frz1, shE, VH.shS_sh, VH.shS_lst, VH.shS_dic, VH.shS_scr, VH.shS_none, pVar, pC, pBin, pChain, pUn, pMap, pB, pTru, pNN, pNNo, pAnd, pOr, pNot, pAndV, pOrV, pNotV, pIf, pNil, pCons, pAll, pPart, pPart0, pSl, pM1, pSeq, pSeq2, pCall_pr, pGet2, pGet3, isDic, Pr.bind, Pr.lift, eAnd, eOr, eNot, eB, bnd, eBin, eUn, eSub, eC, VH.ret, lift, eVar, eSh, eFz, sSet, sRet, sPut, sAsg, sPar, sPar3, sFz, tgN, tgT, tgSeq, eAll, eCons, eNil, eIf, sDo, sApp, sExt, sNext, oLst, oAdd, oIf, oList, oDic0, eMov, eSl, ePart, eCallU, aNil, aVal, aBor, takeA, putA, sRaise, List.getElem?_cons_zero, List.getElem?_cons_succ, List.set_cons_zero, List.set_cons_succ, Nat.reduceSub, Nat.reduceAdd, Nat.reduceLT, Nat.reduceLeDiff, Option.bind, Option.map, O.fzb, O.fzbK, fz, blD, VH.isN_none, VH.isN_int, VH.isN_str, VH.isN_bool, VH.isN_tup, VH.isN_lst, VH.isN_dic, vi_int, vi_bool, vi_str, vi_tuple, vi_list, vi_dict, truD, flR, flRA, List.map_cons, List.map_nil, List.replicate, List.cons_append, List.nil_append, List.length_cons, List.length_nil, if_true, if_false, ite_true, ite_false, Bool.false_eq_true, decide_true, decide_false, beq_self_eq_true, Bool.not_true, Bool.not_false, and_self, and_true, true_and, and_false, false_and, Bool.or_true, Bool.true_or, Bool.or_false, Bool.false_or, Bool.and_true, Bool.and_false, Bool.true_and, Bool.false_and, ne_eq, not_false_eq_true, not_true_eq_false, reduceCtorEq, VH.eq_str, VH.ne_str, VH.eq_int, VH.ne_int, VH.add_int, VH.le_int, VH.lt_int, VH.gt_int, VH.ge_int, VH.ixt0, VH.ixt1, VH.ixt2, VH.ixl0, VH.ixl1, VH.tup0, VH.tup1, VH.tup2, VH.tup3, VH.lst0, VH.lst1, VH.lst2, VH.lst3, VH.len_list, VH.len_tuple, VH.items_list, VH.items_tuple]
end K67
set_option Elab.async false
set_option linter.all false
set_option maxRecDepth 100000
set_option maxHeartbeats 4000000
namespace K67
open PySem PySem.Spec PyProof.Rows L2 VH VC
theorem c_sz_tb : (Str.ofString "size" == Str.ofString "table") = false := by decide +kernel
theorem c_sz_tm : (Str.ofString "size" == Str.ofString "terms") = false := by decide +kernel
theorem c_sz_hd : (Str.ofString "size" == Str.ofString "head") = false := by decide +kernel
theorem c_tb_sz : (Str.ofString "table" == Str.ofString "size") = false := by decide +kernel
theorem c_tb_tm : (Str.ofString "table" == Str.ofString "terms") = false := by decide +kernel
theorem c_tb_hd : (Str.ofString "table" == Str.ofString "head") = false := by decide +kernel
theorem c_tm_sz : (Str.ofString "terms" == Str.ofString "size") = false := by decide +kernel
theorem c_tm_tb : (Str.ofString "terms" == Str.ofString "table") = false := by decide +kernel
theorem c_tm_hd : (Str.ofString "terms" == Str.ofString "head") = false := by decide +kernel
theorem c_hd_sz : (Str.ofString "head" == Str.ofString "size") = false := by decide +kernel
theorem c_hd_tb : (Str.ofString "head" == Str.ofString "table") = false := by decide +kernel
theorem c_hd_tm : (Str.ofString "head" == Str.ofString "terms") = false := by decide +kernel
theorem idx_at {as : List Atom} {i : Nat} (h : i < as.length) : idxD (.list (as.map atD)) (.int i) = some (atD as[i]) := atI_nat (by simp [h])
theorem idx_atT {as : List Atom} {i : Nat} (h : i < as.length) : idxD (.tuple (as.map atD)) (.int i) = some (atD as[i]) := atI_nat (by simp [h])
theorem ofNat_cast (i : Nat) : ((i : Nat) : Int) = Int.ofNat i := rfl
def r_with : List O → Rs O := fnRun bs__law_with 4 b__law_with
theorem set_at {as : List Atom} {i : Nat} {a : Atom} : (as.map atD).set i (atD a) = (as.set i a).map atD := by rw [List.map_set]
theorem with_ok (q : Qn) {i : Nat} (h : i < q.atoms.length) (ts : List Term) : r_with [.sh (qD q), .sh (.int i), .sh (.tuple (ts.map tmD))] = .ok (.sh (qD ⟨q.head, q.atoms.set i (q.atoms[i].1, ts)⟩)) [none, none, none] := by
  unfold r_with fnRun b__law_with
  simp only [List.map_cons, List.map_nil, List.length_cons, List.length_nil, Nat.reduceSub, Nat.reduceAdd, List.replicate, List.cons_append, List.nil_append]
  have e1 := ix_q1 q
  have e0 := ix_q0 q
  have e2 := idx_at h
  have hs := set_at (as := q.atoms) (i := i) (a := (q.atoms[i].1, ts))
  have f1 : flR (.tuple [.str (q.atoms[i]).1, .tuple (ts.map tmD)]) = true := fl_at ((q.atoms[i]).1, ts)
  have f2 : flR (.tuple [.tuple (q.head.map .str), .tuple ((q.atoms.set i (q.atoms[i].1, ts)).map atD)]) = true := by
    show (flRA (q.head.map .str) && (flRA ((q.atoms.set i (q.atoms[i].1, ts)).map atD) && true)) = true
    rw [fl_strs, fl_ats]; rfl
  have ef : idxD (atD q.atoms[i]) (.int 0) = some (.str (q.atoms[i]).1) := VH.ixt0 _ _
  have hlen : i < (q.atoms.map atD).length := by rw [List.length_map]; exact h
  rw [seq_ok (e := [some (.sh (qD q)), some (.sh (.int i)), some (.sh (.tuple (ts.map tmD))), some (.lst (q.atoms.map atD))])]
  rotate_left
  · simp only [pr_run, out, oR, sSeq, sIf, eP, ePk, ePkT, eFr, frzS, frz1, shE, VH.shS_sh, VH.shS_lst, VH.shS_dic, VH.shS_scr, VH.shS_none, pVar, pC, pBin, pChain, pUn, pMap, pB, pTru, pNN, pNNo, pAnd, pOr, pNot, pAndV, pOrV, pNotV, pIf, pNil, pCons, pAll, pPart, pPart0, pSl, pM1, pSeq, pSeq2, pCall_pr, pGet2, pGet3, isDic, Pr.bind, Pr.lift, eAnd, eOr, eNot, eB, bnd, eBin, eUn, eSub, eC, VH.ret, lift, eVar, eSh, eFz, sSet, sRet, sPut, sAsg, sPar, sPar3, sFz, tgN, tgT, tgSeq, eAll, eCons, eNil, eIf, sDo, sApp, sExt, sNext, oLst, oAdd, oIf, oList, oDic0, eMov, eSl, ePart, eCallU, aNil, aVal, aBor, takeA, putA, sRaise, List.getElem?_cons_zero, List.getElem?_cons_succ, List.set_cons_zero, List.set_cons_succ, Nat.reduceSub, Nat.reduceAdd, Nat.reduceLT, Nat.reduceLeDiff, Option.bind, Option.map, O.fzb, O.fzbK, fz, blD, VH.isN_none, VH.isN_int, VH.isN_str, VH.isN_bool, VH.isN_tup, VH.isN_lst, VH.isN_dic, vi_int, vi_bool, vi_str, vi_tuple, vi_list, vi_dict, truD, flR, flRA, List.map_cons, List.map_nil, List.replicate, List.cons_append, List.nil_append, List.length_cons, List.length_nil, if_true, if_false, ite_true, ite_false, Bool.false_eq_true, decide_true, decide_false, beq_self_eq_true, Bool.not_true, Bool.not_false, and_self, and_true, true_and, and_false, false_and, Bool.or_true, Bool.true_or, Bool.or_false, Bool.false_or, Bool.and_true, Bool.and_false, Bool.true_and, Bool.false_and, ne_eq, not_false_eq_true, not_true_eq_false, reduceCtorEq, VH.eq_str, VH.ne_str, VH.eq_int, VH.ne_int, VH.add_int, VH.le_int, VH.lt_int, VH.gt_int, VH.ge_int, VH.ixt0, VH.ixt1, VH.ixt2, VH.ixl0, VH.ixl1, VH.tup0, VH.tup1, VH.tup2, VH.tup3, VH.lst0, VH.lst1, VH.lst2, VH.lst3, VH.len_list, VH.len_tuple, VH.items_list, VH.items_tuple, e1]
  rw [seq_ok (e := [some (.sh (qD q)), some (.sh (.int i)), some (.sh (.tuple (ts.map tmD))), some (.lst ((q.atoms.set i (q.atoms[i].1, ts)).map atD))])]
  rotate_left
  · rw [← hs]
    unfold sLput
    have hx : ePk [3] (pAll tupD (pCons (pBin idxD (pBin idxD (pVar 3) (pVar 1)) (pC (.int 0))) (pCons (pVar 2) (pNil)))) [some (.sh (qD q)), some (.sh (.int i)), some (.sh (.tuple (ts.map tmD))), some (.lst (q.atoms.map atD))] = .ok (atD ((q.atoms[i]).1, ts)) [some (.sh (qD q)), some (.sh (.int i)), some (.sh (.tuple (ts.map tmD))), some (.lst (q.atoms.map atD))] := by
      have f3 := fl_tms ts
      simp only [pr_run, out, oR, sSeq, sIf, eP, ePk, ePkT, eFr, frzS, frz1, shE, VH.shS_sh, VH.shS_lst, VH.shS_dic, VH.shS_scr, VH.shS_none, pVar, pC, pBin, pChain, pUn, pMap, pB, pTru, pNN, pNNo, pAnd, pOr, pNot, pAndV, pOrV, pNotV, pIf, pNil, pCons, pAll, pPart, pPart0, pSl, pM1, pSeq, pSeq2, pCall_pr, pGet2, pGet3, isDic, Pr.bind, Pr.lift, eAnd, eOr, eNot, eB, bnd, eBin, eUn, eSub, eC, VH.ret, lift, eVar, eSh, eFz, sSet, sRet, sPut, sAsg, sPar, sPar3, sFz, tgN, tgT, tgSeq, eAll, eCons, eNil, eIf, sDo, sApp, sExt, sNext, oLst, oAdd, oIf, oList, oDic0, eMov, eSl, ePart, eCallU, aNil, aVal, aBor, takeA, putA, sRaise, List.getElem?_cons_zero, List.getElem?_cons_succ, List.set_cons_zero, List.set_cons_succ, Nat.reduceSub, Nat.reduceAdd, Nat.reduceLT, Nat.reduceLeDiff, Option.bind, Option.map, O.fzb, O.fzbK, fz, blD, VH.isN_none, VH.isN_int, VH.isN_str, VH.isN_bool, VH.isN_tup, VH.isN_lst, VH.isN_dic, vi_int, vi_bool, vi_str, vi_tuple, vi_list, vi_dict, truD, flR, flRA, List.map_cons, List.map_nil, List.replicate, List.cons_append, List.nil_append, List.length_cons, List.length_nil, if_true, if_false, ite_true, ite_false, Bool.false_eq_true, decide_true, decide_false, beq_self_eq_true, Bool.not_true, Bool.not_false, and_self, and_true, true_and, and_false, false_and, Bool.or_true, Bool.true_or, Bool.or_false, Bool.false_or, Bool.and_true, Bool.and_false, Bool.true_and, Bool.false_and, ne_eq, not_false_eq_true, not_true_eq_false, reduceCtorEq, VH.eq_str, VH.ne_str, VH.eq_int, VH.ne_int, VH.add_int, VH.le_int, VH.lt_int, VH.gt_int, VH.ge_int, VH.ixt0, VH.ixt1, VH.ixt2, VH.ixl0, VH.ixl1, VH.tup0, VH.tup1, VH.tup2, VH.tup3, VH.lst0, VH.lst1, VH.lst2, VH.lst3, VH.len_list, VH.len_tuple, VH.items_list, VH.items_tuple, e2, ef, f3]
      rfl
    unfold bnd
    rw [hx]
    simp only [eP, shE, pVar, List.map_cons, List.map_nil, VH.shS_sh, VH.shS_lst, List.getElem?_cons_zero, List.getElem?_cons_succ, ofNat_cast, hlen, if_true, List.set_cons_zero, List.set_cons_succ]
  have f3 := fl_strs q.head
  have f4 := fl_ats (q.atoms.set i (q.atoms[i].1, ts))
  simp only [pr_run, out, oR, sSeq, sIf, eP, ePk, ePkT, eFr, frzS, frz1, shE, VH.shS_sh, VH.shS_lst, VH.shS_dic, VH.shS_scr, VH.shS_none, pVar, pC, pBin, pChain, pUn, pMap, pB, pTru, pNN, pNNo, pAnd, pOr, pNot, pAndV, pOrV, pNotV, pIf, pNil, pCons, pAll, pPart, pPart0, pSl, pM1, pSeq, pSeq2, pCall_pr, pGet2, pGet3, isDic, Pr.bind, Pr.lift, eAnd, eOr, eNot, eB, bnd, eBin, eUn, eSub, eC, VH.ret, lift, eVar, eSh, eFz, sSet, sRet, sPut, sAsg, sPar, sPar3, sFz, tgN, tgT, tgSeq, eAll, eCons, eNil, eIf, sDo, sApp, sExt, sNext, oLst, oAdd, oIf, oList, oDic0, eMov, eSl, ePart, eCallU, aNil, aVal, aBor, takeA, putA, sRaise, List.getElem?_cons_zero, List.getElem?_cons_succ, List.set_cons_zero, List.set_cons_succ, Nat.reduceSub, Nat.reduceAdd, Nat.reduceLT, Nat.reduceLeDiff, Option.bind, Option.map, O.fzb, O.fzbK, fz, blD, VH.isN_none, VH.isN_int, VH.isN_str, VH.isN_bool, VH.isN_tup, VH.isN_lst, VH.isN_dic, vi_int, vi_bool, vi_str, vi_tuple, vi_list, vi_dict, truD, flR, flRA, List.map_cons, List.map_nil, List.replicate, List.cons_append, List.nil_append, List.length_cons, List.length_nil, if_true, if_false, ite_true, ite_false, Bool.false_eq_true, decide_true, decide_false, beq_self_eq_true, Bool.not_true, Bool.not_false, and_self, and_true, true_and, and_false, false_and, Bool.or_true, Bool.true_or, Bool.or_false, Bool.false_or, Bool.and_true, Bool.and_false, Bool.true_and, Bool.false_and, ne_eq, not_false_eq_true, not_true_eq_false, reduceCtorEq, VH.eq_str, VH.ne_str, VH.eq_int, VH.ne_int, VH.add_int, VH.le_int, VH.lt_int, VH.gt_int, VH.ge_int, VH.ixt0, VH.ixt1, VH.ixt2, VH.ixl0, VH.ixl1, VH.tup0, VH.tup1, VH.tup2, VH.tup3, VH.lst0, VH.lst1, VH.lst2, VH.lst3, VH.len_list, VH.len_tuple, VH.items_list, VH.items_tuple, e0, tupOf_list, mask, f3, f4]
  rfl
/-! ### the faults -/
def badL (b : Bool) : List Term := [.is (if b then some (.inr (Str.ofString "x")) else some (.inl 1)), .is none, .var (Str.ofString ""), .var (Str.ofString "A"), .var (Str.ofString "a1"), .any]
def wrongL (b : Bool) (ts : List Term) : List (List Term) := [ts ++ [.any], ts.dropLast] ++ (badL b).map fun t => t :: ts.tail
theorem bad_fits (b : Bool) (n : Str) : ∀ t ∈ badL b, termFits t ⟨n, b, false⟩ = false := by
  intro t ht
  simp only [badL, List.mem_cons, List.not_mem_nil, or_false] at ht
  rcases ht with rfl | rfl | rfl | rfl | rfl | rfl
  · cases b with
    | true => show (true && (isValue (some (.inr (Str.ofString "x"))) && (false == true))) = false; cases isValue (some (.inr (Str.ofString "x"))) <;> rfl
    | false => show (true && (isValue (some (.inl 1)) && (true == false))) = false; cases isValue (some (.inl 1)) <;> rfl
  · rfl
  · show varName (Str.ofString "") = false; decide +kernel
  · show varName (Str.ofString "A") = false; decide +kernel
  · show varName (Str.ofString "a1") = false; decide +kernel
  · rfl
theorem wrong_fits {ts : List Term} {c : Col} {cs : List Col} (hl : ts.length = (c :: cs).length) (hn : c.null = false) : ∀ l ∈ wrongL c.int ts, termsFit l (c :: cs) = false := by
  intro l h
  unfold wrongL at h
  rcases List.mem_append.mp h with h | h
  · simp only [List.mem_cons, List.not_mem_nil, or_false] at h
    rcases h with rfl | rfl
    · unfold termsFit
      rw [decide_eq_false (by rw [List.length_append, hl]; simp)]; rfl
    · unfold termsFit
      rw [decide_eq_false (by rw [List.length_dropLast, hl]; simp)]; rfl
  · obtain ⟨t, ht, rfl⟩ := List.mem_map.mp h
    obtain ⟨n, b, nl⟩ := c
    dsimp only at hn ht
    subst hn
    have hb := bad_fits b n t ht
    unfold termsFit
    rw [List.zip_cons_cons, List.map_cons, List.all_cons]
    dsimp only
    rw [hb]
    simp
theorem cut_last (xs : List D) : slD none (some (-1)) (.tuple xs) = some (.tuple xs.dropLast) := by
  show some (PyData.tuple (cutA xs none (some (-1)))) = _
  unfold cutA
  rw [HT.sIx_none, List.drop_zero, Nat.sub_zero]
  have : HT.sIx xs.length xs.length (some (-1)) = xs.length - 1 := by
    show (if (-1 : Int) < 0 then ((-1 : Int) + (xs.length : Int)).toNat else min (-1 : Int).toNat xs.length) = _
    rw [if_pos (by decide)]; omega
  rw [this, List.dropLast_eq_take]
theorem cut_tail (xs : List D) : slD (some 1) none (.tuple xs) = some (.tuple xs.tail) := by
  have h1 : HT.sIx xs.length 0 (some 1) = min 1 xs.length := HT.sIx_nat xs.length 0 1
  have h2 : cutA xs (some 1) none = xs.tail := by
    unfold cutA
    rw [HT.sIx_none, h1, ← List.drop_one]
    cases xs with
    | nil => rfl
    | cons x xs => rw [List.length_cons, Nat.min_eq_left (by omega), List.take_of_length_le (by simp)]
  show some (PyData.tuple (cutA xs (some 1) none)) = _
  rw [h2]
theorem add_tup {xs ys : List D} (h : xs.length + ys.length ≤ 1000) : addD (.tuple xs) (.tuple ys) = some (.tuple (xs ++ ys)) := by
  show (if xs.length + ys.length ≤ sizeLine then some (PyData.tuple (xs ++ ys)) else none) = _
  rw [if_pos (le_line h)]
theorem lst6 (a b c d e f : D) : lstD [a, b, c, d, e, f] = some (.list [a, b, c, d, e, f]) := rfl
theorem rep_tup {xs : List D} {k : Int} (h1 : 2 ≤ k) (h2 : k ≤ 1000) (h : xs.length ≤ 1000) : repTD2 (.tuple xs) (.int k) = some (.tuple (List.replicate k.toNat xs).flatten) := by
  show (if 2 ≤ k ∧ k ≤ 1000 ∧ xs.length ≤ 1000 then some (PyData.tuple (List.replicate k.toNat xs).flatten) else none) = _
  rw [if_pos ⟨h1, h2, h⟩]
def r_faulty : List O → Rs O := fnRun bs__law_faulty 12 (b__law_faulty r__law_take r_with)
structure Pq (q : Qn) : Prop where
  l1 : 1 ≤ q.atoms.length
  l2 : q.atoms.length ≤ 4
  lh : q.head.length ≤ 4
/-- the start that all kinds share -/
theorem fa_start (q : Qn) (p : Pq q) (SC K : Option O) (T : Tape) : ∃ (i : Nat) (T1 : Tape) (h : i < q.atoms.length), ∀ g : En → Rs Fl,
    sSeq (sSet 4 (eSh (eFz (eCallU r__law_take (aBor 0 (aVal (eP (pAll lenD (pCons (pBin idxD (pVar 2) (pC (.int 1))) (pNil)))) (aNil))))))) (sSeq (sAsg (eP (pBin idxD (pBin idxD (pVar 2) (pC (.int 1))) (pVar 4))) (tgT 2 [tgN 5, tgN 6])) g)
      [some (tapeO T), SC, some (.sh (qD q)), K, none, none, none, none, none, none, none, none] = g [some (tapeO T1), SC, some (.sh (qD q)), K, some (.sh (.int i)), some (.sh (.str (q.atoms[i]).1)), some (.sh (.tuple ((q.atoms[i]).2.map tmD))), none, none, none, none, none] := by
  have h1 := p.l1
  have h2 := p.l2
  obtain ⟨i, T1, e1, hi⟩ := take_ex T (m := q.atoms.length) (by omega) (by omega)
  have hi' : i < q.atoms.length := by omega
  refine ⟨i, T1, hi', fun g => ?_⟩
  have e0 := ix_q1 q
  have e2 := idx_atT hi'
  have e1' : r__law_take [tapeO T, .sh (.int ((q.atoms.map atD).length : Nat))] = .ok (.sh (.int i)) [some (tapeO T1), none] := by rw [List.length_map]; exact e1
  rw [seq_ok (e := [some (tapeO T1), SC, some (.sh (qD q)), K, some (.sh (.int i)), none, none, none, none, none, none, none])]
  rotate_left
  · simp only [pr_run, out, oR, sSeq, sIf, eP, ePk, ePkT, eFr, frzS, frz1, shE, VH.shS_sh, VH.shS_lst, VH.shS_dic, VH.shS_scr, VH.shS_none, pVar, pC, pBin, pChain, pUn, pMap, pB, pTru, pNN, pNNo, pAnd, pOr, pNot, pAndV, pOrV, pNotV, pIf, pNil, pCons, pAll, pPart, pPart0, pSl, pM1, pSeq, pSeq2, pCall_pr, pGet2, pGet3, isDic, Pr.bind, Pr.lift, eAnd, eOr, eNot, eB, bnd, eBin, eUn, eSub, eC, VH.ret, lift, eVar, eSh, eFz, sSet, sRet, sPut, sAsg, sPar, sPar3, sFz, tgN, tgT, tgSeq, eAll, eCons, eNil, eIf, sDo, sApp, sExt, sNext, oLst, oAdd, oIf, oList, oDic0, eMov, eSl, ePart, eCallU, aNil, aVal, aBor, takeA, putA, sRaise, List.getElem?_cons_zero, List.getElem?_cons_succ, List.set_cons_zero, List.set_cons_succ, Nat.reduceSub, Nat.reduceAdd, Nat.reduceLT, Nat.reduceLeDiff, Option.bind, Option.map, O.fzb, O.fzbK, fz, blD, VH.isN_none, VH.isN_int, VH.isN_str, VH.isN_bool, VH.isN_tup, VH.isN_lst, VH.isN_dic, vi_int, vi_bool, vi_str, vi_tuple, vi_list, vi_dict, truD, flR, flRA, List.map_cons, List.map_nil, List.replicate, List.cons_append, List.nil_append, List.length_cons, List.length_nil, if_true, if_false, ite_true, ite_false, Bool.false_eq_true, decide_true, decide_false, beq_self_eq_true, Bool.not_true, Bool.not_false, and_self, and_true, true_and, and_false, false_and, Bool.or_true, Bool.true_or, Bool.or_false, Bool.false_or, Bool.and_true, Bool.and_false, Bool.true_and, Bool.false_and, ne_eq, not_false_eq_true, not_true_eq_false, reduceCtorEq, VH.eq_str, VH.ne_str, VH.eq_int, VH.ne_int, VH.add_int, VH.le_int, VH.lt_int, VH.gt_int, VH.ge_int, VH.ixt0, VH.ixt1, VH.ixt2, VH.ixl0, VH.ixl1, VH.tup0, VH.tup1, VH.tup2, VH.tup3, VH.lst0, VH.lst1, VH.lst2, VH.lst3, VH.len_list, VH.len_tuple, VH.items_list, VH.items_tuple, e0, e1']
  rw [seq_ok (e := [some (tapeO T1), SC, some (.sh (qD q)), K, some (.sh (.int i)), some (.sh (.str (q.atoms[i]).1)), some (.sh (.tuple ((q.atoms[i]).2.map tmD))), none, none, none, none, none])]
  rotate_left
  · have hz : atD q.atoms[i] = .tuple [.str (q.atoms[i]).1, .tuple ((q.atoms[i]).2.map tmD)] := rfl
    rw [hz] at e2
    simp only [pr_run, out, oR, sSeq, sIf, eP, ePk, ePkT, eFr, frzS, frz1, shE, VH.shS_sh, VH.shS_lst, VH.shS_dic, VH.shS_scr, VH.shS_none, pVar, pC, pBin, pChain, pUn, pMap, pB, pTru, pNN, pNNo, pAnd, pOr, pNot, pAndV, pOrV, pNotV, pIf, pNil, pCons, pAll, pPart, pPart0, pSl, pM1, pSeq, pSeq2, pCall_pr, pGet2, pGet3, isDic, Pr.bind, Pr.lift, eAnd, eOr, eNot, eB, bnd, eBin, eUn, eSub, eC, VH.ret, lift, eVar, eSh, eFz, sSet, sRet, sPut, sAsg, sPar, sPar3, sFz, tgN, tgT, tgSeq, eAll, eCons, eNil, eIf, sDo, sApp, sExt, sNext, oLst, oAdd, oIf, oList, oDic0, eMov, eSl, ePart, eCallU, aNil, aVal, aBor, takeA, putA, sRaise, List.getElem?_cons_zero, List.getElem?_cons_succ, List.set_cons_zero, List.set_cons_succ, Nat.reduceSub, Nat.reduceAdd, Nat.reduceLT, Nat.reduceLeDiff, Option.bind, Option.map, O.fzb, O.fzbK, fz, blD, VH.isN_none, VH.isN_int, VH.isN_str, VH.isN_bool, VH.isN_tup, VH.isN_lst, VH.isN_dic, vi_int, vi_bool, vi_str, vi_tuple, vi_list, vi_dict, truD, flR, flRA, List.map_cons, List.map_nil, List.replicate, List.cons_append, List.nil_append, List.length_cons, List.length_nil, if_true, if_false, ite_true, ite_false, Bool.false_eq_true, decide_true, decide_false, beq_self_eq_true, Bool.not_true, Bool.not_false, and_self, and_true, true_and, and_false, false_and, Bool.or_true, Bool.true_or, Bool.or_false, Bool.false_or, Bool.and_true, Bool.and_false, Bool.true_and, Bool.false_and, ne_eq, not_false_eq_true, not_true_eq_false, reduceCtorEq, VH.eq_str, VH.ne_str, VH.eq_int, VH.ne_int, VH.add_int, VH.le_int, VH.lt_int, VH.gt_int, VH.ge_int, VH.ixt0, VH.ixt1, VH.ixt2, VH.ixl0, VH.ixl1, VH.tup0, VH.tup1, VH.tup2, VH.tup3, VH.lst0, VH.lst1, VH.lst2, VH.lst3, VH.len_list, VH.len_tuple, VH.items_list, VH.items_tuple, e0, e2]
theorem fa_head (s : Sch) (q : Qn) (p : Pq q) (T : Tape) : ∃ T', r_faulty [tapeO T, .sh (scD s), .sh (qD q), .sh (.str (Str.ofString "head"))] = .ok (.sh (qD ⟨q.head.take 3 ++ [Str.ofString "nowhere"], q.atoms⟩)) [some (tapeO T'), none, none, none] := by
  obtain ⟨i, T1, hi, e⟩ := fa_start q p (some (.sh (scD s))) (some (.sh (.str (Str.ofString "head")))) T
  refine ⟨T1, ?_⟩
  unfold r_faulty fnRun b__law_faulty
  simp only [List.map_cons, List.map_nil, List.length_cons, List.length_nil, Nat.reduceSub, Nat.reduceAdd, List.replicate, List.cons_append, List.nil_append]
  rw [e]
  have e0 := ix_q0 q
  have e1 := ix_q1 q
  have hs := sl_takeT (k := 3) (q.head.map .str)
  have hs : slD none (some 3) (.tuple (q.head.map .str)) = some (.tuple ((q.head.map .str).take 3)) := hs
  rw [← List.map_take] at hs
  have ha := add_tup (xs := (q.head.take 3).map .str) (ys := [.str (Str.ofString "nowhere")]) (by simp; omega)
  have hm : (q.head.take 3).map PyData.str ++ [.str (Str.ofString "nowhere")] = (q.head.take 3 ++ [Str.ofString "nowhere"]).map .str := by rw [List.map_append]; rfl
  rw [hm] at ha
  simp only [pr_run, out, oR, sSeq, sIf, eP, ePk, ePkT, eFr, frzS, frz1, shE, VH.shS_sh, VH.shS_lst, VH.shS_dic, VH.shS_scr, VH.shS_none, pVar, pC, pBin, pChain, pUn, pMap, pB, pTru, pNN, pNNo, pAnd, pOr, pNot, pAndV, pOrV, pNotV, pIf, pNil, pCons, pAll, pPart, pPart0, pSl, pM1, pSeq, pSeq2, pCall_pr, pGet2, pGet3, isDic, Pr.bind, Pr.lift, eAnd, eOr, eNot, eB, bnd, eBin, eUn, eSub, eC, VH.ret, lift, eVar, eSh, eFz, sSet, sRet, sPut, sAsg, sPar, sPar3, sFz, tgN, tgT, tgSeq, eAll, eCons, eNil, eIf, sDo, sApp, sExt, sNext, oLst, oAdd, oIf, oList, oDic0, eMov, eSl, ePart, eCallU, aNil, aVal, aBor, takeA, putA, sRaise, List.getElem?_cons_zero, List.getElem?_cons_succ, List.set_cons_zero, List.set_cons_succ, Nat.reduceSub, Nat.reduceAdd, Nat.reduceLT, Nat.reduceLeDiff, Option.bind, Option.map, O.fzb, O.fzbK, fz, blD, VH.isN_none, VH.isN_int, VH.isN_str, VH.isN_bool, VH.isN_tup, VH.isN_lst, VH.isN_dic, vi_int, vi_bool, vi_str, vi_tuple, vi_list, vi_dict, truD, flR, flRA, List.map_cons, List.map_nil, List.replicate, List.cons_append, List.nil_append, List.length_cons, List.length_nil, if_true, if_false, ite_true, ite_false, Bool.false_eq_true, decide_true, decide_false, beq_self_eq_true, Bool.not_true, Bool.not_false, and_self, and_true, true_and, and_false, false_and, Bool.or_true, Bool.true_or, Bool.or_false, Bool.false_or, Bool.and_true, Bool.and_false, Bool.true_and, Bool.false_and, ne_eq, not_false_eq_true, not_true_eq_false, reduceCtorEq, VH.eq_str, VH.ne_str, VH.eq_int, VH.ne_int, VH.add_int, VH.le_int, VH.lt_int, VH.gt_int, VH.ge_int, VH.ixt0, VH.ixt1, VH.ixt2, VH.ixl0, VH.ixl1, VH.tup0, VH.tup1, VH.tup2, VH.tup3, VH.lst0, VH.lst1, VH.lst2, VH.lst3, VH.len_list, VH.len_tuple, VH.items_list, VH.items_tuple, c_hd_sz, c_hd_tb, c_hd_tm, e0, e1, hs, ixI, ha, mask]
  rfl
theorem fa_table (s : Sch) (q : Qn) (p : Pq q) (T : Tape) : ∃ (T' : Tape) (i : Nat) (h : i < q.atoms.length), r_faulty [tapeO T, .sh (scD s), .sh (qD q), .sh (.str (Str.ofString "table"))] = .ok (.sh (qD ⟨q.head, q.atoms.set i (Str.ofString "none", (q.atoms[i]).2)⟩)) [some (tapeO T'), none, none, none] := by
  obtain ⟨i, T1, hi, e⟩ := fa_start q p (some (.sh (scD s))) (some (.sh (.str (Str.ofString "table")))) T
  refine ⟨T1, i, hi, ?_⟩
  unfold r_faulty fnRun b__law_faulty
  simp only [List.map_cons, List.map_nil, List.length_cons, List.length_nil, Nat.reduceSub, Nat.reduceAdd, List.replicate, List.cons_append, List.nil_append]
  rw [e]
  have e0 := ix_q0 q
  have e1 := ix_q1 q
  have hs := set_at (as := q.atoms) (i := i) (a := (Str.ofString "none", (q.atoms[i]).2))
  have hs : (q.atoms.map atD).set i (.tuple [.str (Str.ofString "none"), .tuple ((q.atoms[i]).2.map tmD)]) = (q.atoms.set i (Str.ofString "none", (q.atoms[i]).2)).map atD := hs
  have hlen : i < (q.atoms.map atD).length := by rw [List.length_map]; exact hi
  have f3 := fl_strs q.head
  have f4 := fl_ats (q.atoms.set i (Str.ofString "none", (q.atoms[i]).2))
  simp only [pr_run, out, oR, sSeq, sIf, eP, ePk, ePkT, eFr, frzS, frz1, shE, VH.shS_sh, VH.shS_lst, VH.shS_dic, VH.shS_scr, VH.shS_none, pVar, pC, pBin, pChain, pUn, pMap, pB, pTru, pNN, pNNo, pAnd, pOr, pNot, pAndV, pOrV, pNotV, pIf, pNil, pCons, pAll, pPart, pPart0, pSl, pM1, pSeq, pSeq2, pCall_pr, pGet2, pGet3, isDic, Pr.bind, Pr.lift, eAnd, eOr, eNot, eB, bnd, eBin, eUn, eSub, eC, VH.ret, lift, eVar, eSh, eFz, sSet, sRet, sPut, sAsg, sPar, sPar3, sFz, tgN, tgT, tgSeq, eAll, eCons, eNil, eIf, sDo, sApp, sExt, sNext, oLst, oAdd, oIf, oList, oDic0, eMov, eSl, ePart, eCallU, aNil, aVal, aBor, takeA, putA, sRaise, List.getElem?_cons_zero, List.getElem?_cons_succ, List.set_cons_zero, List.set_cons_succ, Nat.reduceSub, Nat.reduceAdd, Nat.reduceLT, Nat.reduceLeDiff, Option.bind, Option.map, O.fzb, O.fzbK, fz, blD, VH.isN_none, VH.isN_int, VH.isN_str, VH.isN_bool, VH.isN_tup, VH.isN_lst, VH.isN_dic, vi_int, vi_bool, vi_str, vi_tuple, vi_list, vi_dict, truD, flR, flRA, List.map_cons, List.map_nil, List.replicate, List.cons_append, List.nil_append, List.length_cons, List.length_nil, if_true, if_false, ite_true, ite_false, Bool.false_eq_true, decide_true, decide_false, beq_self_eq_true, Bool.not_true, Bool.not_false, and_self, and_true, true_and, and_false, false_and, Bool.or_true, Bool.true_or, Bool.or_false, Bool.false_or, Bool.and_true, Bool.and_false, Bool.true_and, Bool.false_and, ne_eq, not_false_eq_true, not_true_eq_false, reduceCtorEq, VH.eq_str, VH.ne_str, VH.eq_int, VH.ne_int, VH.add_int, VH.le_int, VH.lt_int, VH.gt_int, VH.ge_int, VH.ixt0, VH.ixt1, VH.ixt2, VH.ixl0, VH.ixl1, VH.tup0, VH.tup1, VH.tup2, VH.tup3, VH.lst0, VH.lst1, VH.lst2, VH.lst3, VH.len_list, VH.len_tuple, VH.items_list, VH.items_tuple, c_tb_sz, c_tb_tm, c_tb_hd, e0, e1, sLput, ofNat_cast, hlen, hs, tupOf_list, f3, f4, mask]
  rfl
end K67
set_option Elab.async false
set_option linter.all false
set_option maxRecDepth 100000
set_option maxHeartbeats 4000000
namespace K67
open PySem PySem.Spec PyProof.Rows L2 VH VC
theorem take1 {α : Type} {xs : List α} (h : 1 ≤ xs.length) : (List.replicate 7 (xs.take 1)).flatten.length = 7 := by
  cases xs with
  | nil => simp at h
  | cons x xs => rfl
theorem take1' {α : Type} {xs : List α} (h : xs ≠ []) : (List.replicate 5 (xs.take 1)).flatten.length = 5 := by
  cases xs with
  | nil => exact absurd rfl h
  | cons x xs => rfl
theorem rep_map {α : Type} (f : α → D) (n : Nat) (xs : List α) : (List.replicate n (xs.map f)).flatten = (List.replicate n xs).flatten.map f := by
  induction n with
  | zero => rfl
  | succ n ih => rw [List.replicate_succ, List.replicate_succ, List.flatten_cons, List.flatten_cons, ih, List.map_append]
theorem eq_tup_nil {xs : List Str} (h : ∀ x ∈ xs, PyData.strOk x = true) : eqD (.tuple (xs.map .str)) (.tuple []) = some (.bool xs.isEmpty) := by
  have hs : SeqAt.shaped (.tuple (xs.map .str)) = true := shp_strs h
  unfold eqD eqS
  simp only
  rw [if_pos ⟨hs, by rfl⟩]
  cases xs <;> rfl
theorem size_bad {q : Qn} (h : q.atoms.length = 0 ∨ 6 < q.atoms.length ∨ 4 < q.head.length) : sizeBad q = true := by
  unfold sizeBad
  rcases h with h | h | h
  · rw [h]; rfl
  · rw [show decide (q.atoms.length ≤ 6) = false from decide_eq_false (by omega), Bool.and_false]; rfl
  · rw [show decide (4 < q.head.length) = true from decide_eq_true h, Bool.or_true]
theorem ixl_map {α : Type} (f : α → D) {l : List α} {i : Nat} (h : i < l.length) : idxD (.list (l.map f)) (.int i) = some (f l[i]) := atI_nat (by simp [h])
theorem fa_size (s : Sch) (q : Qn) (p : Pq q) (hh : ∀ x ∈ q.head, PyData.strOk x = true) (hg : Gq q) (ht : total q.atoms ≤ 100) (T : Tape) : ∃ (T' : Tape) (q' : Qn), r_faulty [tapeO T, .sh (scD s), .sh (qD q), .sh (.str (Str.ofString "size"))] = .ok (.sh (qD q')) [some (tapeO T'), none, none, none] ∧ sizeBad q' = true ∧ Gq q' := by
  obtain ⟨i, T1, hi, e⟩ := fa_start q p (some (.sh (scD s))) (some (.sh (.str (Str.ofString "size")))) T
  have h1 := p.l1
  have h2 := p.l2
  have hl := p.lh
  have e0 := ix_q0 q
  have e1 := ix_q1 q
  have s1 : slD none (some 1) (.tuple (q.atoms.map atD)) = some (.tuple ((q.atoms.map atD).take 1)) := sl_takeT (k := 1) (q.atoms.map atD)
  have s2 : slD none (some 1) (.tuple (q.head.map .str)) = some (.tuple ((q.head.map .str).take 1)) := sl_takeT (k := 1) (q.head.map .str)
  have r1 := rep_tup (xs := (q.atoms.map atD).take 1) (k := 7) (by decide) (by decide) (by rw [List.length_take]; omega)
  have r2 := rep_tup (xs := (q.head.map PyData.str).take 1) (k := 5) (by decide) (by decide) (by rw [List.length_take]; omega)
  rw [← List.map_take] at s1 s2 r1 r2
  rw [rep_map] at r1 r2
  rw [show Int.toNat 7 = 7 from rfl] at r1
  rw [show Int.toNat 5 = 5 from rfl] at r2
  have q1 : qD ⟨q.head, []⟩ = .tuple [.tuple (q.head.map .str), .tuple []] := rfl
  have q2 : qD ⟨q.head, (List.replicate 7 (q.atoms.take 1)).flatten⟩ = .tuple [.tuple (q.head.map .str), .tuple ((List.replicate 7 (q.atoms.take 1)).flatten.map atD)] := rfl
  have q3 : qD ⟨(List.replicate 5 (q.head.take 1)).flatten, q.atoms⟩ = .tuple [.tuple ((List.replicate 5 (q.head.take 1)).flatten.map .str), .tuple (q.atoms.map atD)] := rfl
  have hW : ∀ g : En → Rs Fl, sSeq (sSet 7 (eSh (eP (pAll lstD (pCons (pAll tupD (pCons (pBin idxD (pVar 2) (pC (.int 0))) (pCons (pAll tupD (pNil)) (pNil)))) (pCons (pAll tupD (pCons (pBin idxD (pVar 2) (pC (.int 0))) (pCons (pBin repTD2 (pSl (pBin idxD (pVar 2) (pC (.int 1))) (pPart0) (pPart (pC (.int 1)))) (pC (.int 7))) (pNil)))) (pCons (pAll tupD (pCons (pBin repTD2 (pSl (pBin idxD (pVar 2) (pC (.int 0))) (pPart0) (pPart (pC (.int 1)))) (pC (.int 5))) (pCons (pBin idxD (pVar 2) (pC (.int 1))) (pNil)))) (pNil)))))))) g
      [some (tapeO T1), some (.sh (scD s)), some (.sh (qD q)), some (.sh (.str (Str.ofString "size"))), some (.sh (.int i)), some (.sh (.str (q.atoms[i]).1)), some (.sh (.tuple ((q.atoms[i]).2.map tmD))), none, none, none, none, none] =
      g [some (tapeO T1), some (.sh (scD s)), some (.sh (qD q)), some (.sh (.str (Str.ofString "size"))), some (.sh (.int i)), some (.sh (.str (q.atoms[i]).1)), some (.sh (.tuple ((q.atoms[i]).2.map tmD))), some (.sh (.list [qD ⟨q.head, []⟩, qD ⟨q.head, (List.replicate 7 (q.atoms.take 1)).flatten⟩, qD ⟨(List.replicate 5 (q.head.take 1)).flatten, q.atoms⟩])), none, none, none, none] := by
    intro g
    rw [seq_ok (e := [some (tapeO T1), some (.sh (scD s)), some (.sh (qD q)), some (.sh (.str (Str.ofString "size"))), some (.sh (.int i)), some (.sh (.str (q.atoms[i]).1)), some (.sh (.tuple ((q.atoms[i]).2.map tmD))), some (.sh (.list [qD ⟨q.head, []⟩, qD ⟨q.head, (List.replicate 7 (q.atoms.take 1)).flatten⟩, qD ⟨(List.replicate 5 (q.head.take 1)).flatten, q.atoms⟩])), none, none, none, none])]
    rw [q1, q2, q3]
    generalize (List.replicate 7 (q.atoms.take 1)).flatten = A7 at *
    generalize (List.replicate 5 (q.head.take 1)).flatten = A5 at *
    simp only [pr_run, out, oR, sSeq, sIf, eP, ePk, ePkT, eFr, frzS, frz1, shE, VH.shS_sh, VH.shS_lst, VH.shS_dic, VH.shS_scr, VH.shS_none, pVar, pC, pBin, pChain, pUn, pMap, pB, pTru, pNN, pNNo, pAnd, pOr, pNot, pAndV, pOrV, pNotV, pIf, pNil, pCons, pAll, pPart, pPart0, pSl, pM1, pSeq, pSeq2, pCall_pr, pGet2, pGet3, isDic, Pr.bind, Pr.lift, eAnd, eOr, eNot, eB, bnd, eBin, eUn, eSub, eC, VH.ret, lift, eVar, eSh, eFz, sSet, sRet, sPut, sAsg, sPar, sPar3, sFz, tgN, tgT, tgSeq, eAll, eCons, eNil, eIf, sDo, sApp, sExt, sNext, oLst, oAdd, oIf, oList, oDic0, eMov, eSl, ePart, eCallU, aNil, aVal, aBor, takeA, putA, sRaise, List.getElem?_cons_zero, List.getElem?_cons_succ, List.set_cons_zero, List.set_cons_succ, Nat.reduceSub, Nat.reduceAdd, Nat.reduceLT, Nat.reduceLeDiff, Option.bind, Option.map, O.fzb, O.fzbK, fz, blD, VH.isN_none, VH.isN_int, VH.isN_str, VH.isN_bool, VH.isN_tup, VH.isN_lst, VH.isN_dic, vi_int, vi_bool, vi_str, vi_tuple, vi_list, vi_dict, truD, flR, flRA, List.map_cons, List.map_nil, List.replicate, List.cons_append, List.nil_append, List.length_cons, List.length_nil, if_true, if_false, ite_true, ite_false, Bool.false_eq_true, decide_true, decide_false, beq_self_eq_true, Bool.not_true, Bool.not_false, and_self, and_true, true_and, and_false, false_and, Bool.or_true, Bool.true_or, Bool.or_false, Bool.false_or, Bool.and_true, Bool.and_false, Bool.true_and, Bool.false_and, ne_eq, not_false_eq_true, not_true_eq_false, reduceCtorEq, VH.eq_str, VH.ne_str, VH.eq_int, VH.ne_int, VH.add_int, VH.le_int, VH.lt_int, VH.gt_int, VH.ge_int, VH.ixt0, VH.ixt1, VH.ixt2, VH.ixl0, VH.ixl1, VH.tup0, VH.tup1, VH.tup2, VH.tup3, VH.lst0, VH.lst1, VH.lst2, VH.lst3, VH.len_list, VH.len_tuple, VH.items_list, VH.items_tuple, e0, e1, s1, s2, ixI, r1, r2]
  have hen := eq_tup_nil hh
  have g1 : Gq ⟨q.head, []⟩ := ⟨(fun _ h => nomatch h), Nat.zero_le _⟩
  have g2 : Gq ⟨q.head, (List.replicate 7 (q.atoms.take 1)).flatten⟩ := by
    cases hq : q.atoms with
    | nil => rw [hq] at h1; simp at h1
    | cons a as =>
      have ha := hg.1 a (by rw [hq]; exact List.mem_cons_self)
      refine ⟨fun b hb => ?_, ?_⟩
      · have hb' : b ∈ [a, a, a, a, a, a, a] := hb
        simp only [List.mem_cons, List.not_mem_nil, or_false] at hb'
        rcases hb' with rfl | rfl | rfl | rfl | rfl | rfl | rfl <;> exact ha
      · have hz : total q.atoms = a.2.length + total as := by unfold total; rw [hq]; rfl
        show (a.2.length + (a.2.length + (a.2.length + (a.2.length + (a.2.length + (a.2.length + (a.2.length + 0))))))) ≤ 1000
        omega
  have g3 : Gq ⟨(List.replicate 5 (q.head.take 1)).flatten, q.atoms⟩ := hg
  have b1 : sizeBad ⟨q.head, []⟩ = true := size_bad (.inl rfl)
  have b2 : sizeBad ⟨q.head, (List.replicate 7 (q.atoms.take 1)).flatten⟩ = true := size_bad (.inr (.inl (by dsimp only; rw [take1 h1]; decide)))
  have fin : ∀ (r : Nat) (m : Int) (T2 : Tape) (q' : Qn), pIf (pB (pBin eqD (pBin idxD (pVar 2) (pC (.int 0))) (pAll tupD (pNil)))) (pC (.int 2)) (pC (.int 3)) [none, some (.sh (scD s)), some (.sh (qD q)), some (.sh (.str (Str.ofString "size"))), some (.sh (.int i)), some (.sh (.str (q.atoms[i]).1)), some (.sh (.tuple ((q.atoms[i]).2.map tmD))), some (.sh (.list [qD ⟨q.head, []⟩, qD ⟨q.head, (List.replicate 7 (q.atoms.take 1)).flatten⟩, qD ⟨(List.replicate 5 (q.head.take 1)).flatten, q.atoms⟩])), none, none, none, none] = .ok (.int m) →
      r__law_take [tapeO T1, .sh (.int m)] = .ok (.sh (.int r)) [some (tapeO T2), none] → idxD (.list [qD ⟨q.head, []⟩, qD ⟨q.head, (List.replicate 7 (q.atoms.take 1)).flatten⟩, qD ⟨(List.replicate 5 (q.head.take 1)).flatten, q.atoms⟩]) (.int r) = some (qD q') →
      r_faulty [tapeO T, .sh (scD s), .sh (qD q), .sh (.str (Str.ofString "size"))] = .ok (.sh (qD q')) [some (tapeO T2), none, none, none] := by
    intro r m T2 q' hm ht hi
    unfold r_faulty fnRun b__law_faulty
    simp only [List.map_cons, List.map_nil, List.length_cons, List.length_nil, Nat.reduceSub, Nat.reduceAdd, List.replicate, List.cons_append, List.nil_append]
    rw [e]
    rw [seq_ret (o := .sh (qD q')) (e := [some (tapeO T2), some (.sh (scD s)), some (.sh (qD q)), some (.sh (.str (Str.ofString "size"))), some (.sh (.int i)), some (.sh (.str (q.atoms[i]).1)), some (.sh (.tuple ((q.atoms[i]).2.map tmD))), some (.sh (.list [qD ⟨q.head, []⟩, qD ⟨q.head, (List.replicate 7 (q.atoms.take 1)).flatten⟩, qD ⟨(List.replicate 5 (q.head.take 1)).flatten, q.atoms⟩])), none, none, none, none])]
    · rfl
    · unfold sIf
      simp only [bnd, eP, shE, pB, pBin, pVar, pC, Pr.bind, Pr.lift, List.map_cons, List.map_nil, VH.shS_sh, VH.shS_none, List.getElem?_cons_succ, List.getElem?_cons_zero, VH.eq_str, beq_self_eq_true, blD, if_true]
      rw [hW]
      generalize (.list [qD ⟨q.head, []⟩, qD ⟨q.head, (List.replicate 7 (q.atoms.take 1)).flatten⟩, qD ⟨(List.replicate 5 (q.head.take 1)).flatten, q.atoms⟩] : D) = W at *
      have hx : eSub 7 (eFz (eCallU r__law_take (aBor 0 (aVal (eP (pIf (pB (pBin eqD (pBin idxD (pVar 2) (pC (.int 0))) (pAll tupD (pNil)))) (pC (.int 2)) (pC (.int 3)))) (aNil))))) [some (tapeO T1), some (.sh (scD s)), some (.sh (qD q)), some (.sh (.str (Str.ofString "size"))), some (.sh (.int i)), some (.sh (.str (q.atoms[i]).1)), some (.sh (.tuple ((q.atoms[i]).2.map tmD))), some (.sh W), none, none, none, none] =
          .ok (qD q') [some (tapeO T2), some (.sh (scD s)), some (.sh (qD q)), some (.sh (.str (Str.ofString "size"))), some (.sh (.int i)), some (.sh (.str (q.atoms[i]).1)), some (.sh (.tuple ((q.atoms[i]).2.map tmD))), some (.sh W), none, none, none, none] := by
        generalize hP : (pIf (pB (pBin eqD (pBin idxD (pVar 2) (pC (.int 0))) (pAll tupD (pNil)))) (pC (.int 2)) (pC (.int 3))) = P at *
        have ho : shS (some (tapeO T1)) = none := rfl
        simp only [eSub, eFz, eCallU, aBor, aVal, aNil, eP, shE, List.map_cons, List.map_nil, ho, VH.shS_sh, VH.shS_none, bnd, hm, VH.ret, List.getElem?_cons_zero, List.getElem?_cons_succ, takeA, putA, ht, O.fzb, fz, if_true, lift, hi, List.set_cons_zero]
      unfold sRet eSh bnd
      dsimp only
      rw [hx]
      rfl
  by_cases he : q.head = []
  · obtain ⟨r, T2, et, hr⟩ := take_ex T1 (m := 2) (by decide) (by decide)
    rw [he] at hen
    have hm : pIf (pB (pBin eqD (pBin idxD (pVar 2) (pC (.int 0))) (pAll tupD (pNil)))) (pC (.int 2)) (pC (.int 3)) [none, some (.sh (scD s)), some (.sh (qD q)), some (.sh (.str (Str.ofString "size"))), some (.sh (.int i)), some (.sh (.str (q.atoms[i]).1)), some (.sh (.tuple ((q.atoms[i]).2.map tmD))), some (.sh (.list [qD ⟨q.head, []⟩, qD ⟨q.head, (List.replicate 7 (q.atoms.take 1)).flatten⟩, qD ⟨(List.replicate 5 (q.head.take 1)).flatten, q.atoms⟩])), none, none, none, none] = .ok (.int 2) := by
      rw [he] at e0
      rw [List.map_nil] at e0 hen
      simp only [pr_run, out, oR, sSeq, sIf, eP, ePk, ePkT, eFr, frzS, frz1, shE, VH.shS_sh, VH.shS_lst, VH.shS_dic, VH.shS_scr, VH.shS_none, pVar, pC, pBin, pChain, pUn, pMap, pB, pTru, pNN, pNNo, pAnd, pOr, pNot, pAndV, pOrV, pNotV, pIf, pNil, pCons, pAll, pPart, pPart0, pSl, pM1, pSeq, pSeq2, pCall_pr, pGet2, pGet3, isDic, Pr.bind, Pr.lift, eAnd, eOr, eNot, eB, bnd, eBin, eUn, eSub, eC, VH.ret, lift, eVar, eSh, eFz, sSet, sRet, sPut, sAsg, sPar, sPar3, sFz, tgN, tgT, tgSeq, eAll, eCons, eNil, eIf, sDo, sApp, sExt, sNext, oLst, oAdd, oIf, oList, oDic0, eMov, eSl, ePart, eCallU, aNil, aVal, aBor, takeA, putA, sRaise, List.getElem?_cons_zero, List.getElem?_cons_succ, List.set_cons_zero, List.set_cons_succ, Nat.reduceSub, Nat.reduceAdd, Nat.reduceLT, Nat.reduceLeDiff, Option.bind, Option.map, O.fzb, O.fzbK, fz, blD, VH.isN_none, VH.isN_int, VH.isN_str, VH.isN_bool, VH.isN_tup, VH.isN_lst, VH.isN_dic, vi_int, vi_bool, vi_str, vi_tuple, vi_list, vi_dict, truD, flR, flRA, List.map_cons, List.map_nil, List.replicate, List.cons_append, List.nil_append, List.length_cons, List.length_nil, if_true, if_false, ite_true, ite_false, Bool.false_eq_true, decide_true, decide_false, beq_self_eq_true, Bool.not_true, Bool.not_false, and_self, and_true, true_and, and_false, false_and, Bool.or_true, Bool.true_or, Bool.or_false, Bool.false_or, Bool.and_true, Bool.and_false, Bool.true_and, Bool.false_and, ne_eq, not_false_eq_true, not_true_eq_false, reduceCtorEq, VH.eq_str, VH.ne_str, VH.eq_int, VH.ne_int, VH.add_int, VH.le_int, VH.lt_int, VH.gt_int, VH.ge_int, VH.ixt0, VH.ixt1, VH.ixt2, VH.ixl0, VH.ixl1, VH.tup0, VH.tup1, VH.tup2, VH.tup3, VH.lst0, VH.lst1, VH.lst2, VH.lst3, VH.len_list, VH.len_tuple, VH.items_list, VH.items_tuple, e0, hen, List.isEmpty_nil]
    rcases (show r = 0 ∨ r = 1 by omega) with rfl | rfl
    · exact ⟨T2, _, fin 0 2 T2 _ hm et (ixl_map id (l := [qD ⟨q.head, []⟩, qD ⟨q.head, (List.replicate 7 (q.atoms.take 1)).flatten⟩, qD ⟨(List.replicate 5 (q.head.take 1)).flatten, q.atoms⟩]) (i := 0) (by simp)), b1, g1⟩
    · exact ⟨T2, _, fin 1 2 T2 _ hm et (ixl_map id (l := [qD ⟨q.head, []⟩, qD ⟨q.head, (List.replicate 7 (q.atoms.take 1)).flatten⟩, qD ⟨(List.replicate 5 (q.head.take 1)).flatten, q.atoms⟩]) (i := 1) (by simp)), b2, g2⟩
  · obtain ⟨r, T2, et, hr⟩ := take_ex T1 (m := 3) (by decide) (by decide)
    have b3 : sizeBad ⟨(List.replicate 5 (q.head.take 1)).flatten, q.atoms⟩ = true := size_bad (.inr (.inr (by dsimp only; rw [take1' he]; decide)))
    have hne : q.head.isEmpty = false := by
      cases hq : q.head with
      | nil => exact absurd hq he
      | cons x xs => rfl
    rw [hne] at hen
    have hm : pIf (pB (pBin eqD (pBin idxD (pVar 2) (pC (.int 0))) (pAll tupD (pNil)))) (pC (.int 2)) (pC (.int 3)) [none, some (.sh (scD s)), some (.sh (qD q)), some (.sh (.str (Str.ofString "size"))), some (.sh (.int i)), some (.sh (.str (q.atoms[i]).1)), some (.sh (.tuple ((q.atoms[i]).2.map tmD))), some (.sh (.list [qD ⟨q.head, []⟩, qD ⟨q.head, (List.replicate 7 (q.atoms.take 1)).flatten⟩, qD ⟨(List.replicate 5 (q.head.take 1)).flatten, q.atoms⟩])), none, none, none, none] = .ok (.int 3) := by
      simp only [pr_run, out, oR, sSeq, sIf, eP, ePk, ePkT, eFr, frzS, frz1, shE, VH.shS_sh, VH.shS_lst, VH.shS_dic, VH.shS_scr, VH.shS_none, pVar, pC, pBin, pChain, pUn, pMap, pB, pTru, pNN, pNNo, pAnd, pOr, pNot, pAndV, pOrV, pNotV, pIf, pNil, pCons, pAll, pPart, pPart0, pSl, pM1, pSeq, pSeq2, pCall_pr, pGet2, pGet3, isDic, Pr.bind, Pr.lift, eAnd, eOr, eNot, eB, bnd, eBin, eUn, eSub, eC, VH.ret, lift, eVar, eSh, eFz, sSet, sRet, sPut, sAsg, sPar, sPar3, sFz, tgN, tgT, tgSeq, eAll, eCons, eNil, eIf, sDo, sApp, sExt, sNext, oLst, oAdd, oIf, oList, oDic0, eMov, eSl, ePart, eCallU, aNil, aVal, aBor, takeA, putA, sRaise, List.getElem?_cons_zero, List.getElem?_cons_succ, List.set_cons_zero, List.set_cons_succ, Nat.reduceSub, Nat.reduceAdd, Nat.reduceLT, Nat.reduceLeDiff, Option.bind, Option.map, O.fzb, O.fzbK, fz, blD, VH.isN_none, VH.isN_int, VH.isN_str, VH.isN_bool, VH.isN_tup, VH.isN_lst, VH.isN_dic, vi_int, vi_bool, vi_str, vi_tuple, vi_list, vi_dict, truD, flR, flRA, List.map_cons, List.map_nil, List.replicate, List.cons_append, List.nil_append, List.length_cons, List.length_nil, if_true, if_false, ite_true, ite_false, Bool.false_eq_true, decide_true, decide_false, beq_self_eq_true, Bool.not_true, Bool.not_false, and_self, and_true, true_and, and_false, false_and, Bool.or_true, Bool.true_or, Bool.or_false, Bool.false_or, Bool.and_true, Bool.and_false, Bool.true_and, Bool.false_and, ne_eq, not_false_eq_true, not_true_eq_false, reduceCtorEq, VH.eq_str, VH.ne_str, VH.eq_int, VH.ne_int, VH.add_int, VH.le_int, VH.lt_int, VH.gt_int, VH.ge_int, VH.ixt0, VH.ixt1, VH.ixt2, VH.ixl0, VH.ixl1, VH.tup0, VH.tup1, VH.tup2, VH.tup3, VH.lst0, VH.lst1, VH.lst2, VH.lst3, VH.len_list, VH.len_tuple, VH.items_list, VH.items_tuple, e0, hen]
    rcases (show r = 0 ∨ r = 1 ∨ r = 2 by omega) with rfl | rfl | rfl
    · exact ⟨T2, _, fin 0 3 T2 _ hm et (ixl_map id (l := [qD ⟨q.head, []⟩, qD ⟨q.head, (List.replicate 7 (q.atoms.take 1)).flatten⟩, qD ⟨(List.replicate 5 (q.head.take 1)).flatten, q.atoms⟩]) (i := 0) (by simp)), b1, g1⟩
    · exact ⟨T2, _, fin 1 3 T2 _ hm et (ixl_map id (l := [qD ⟨q.head, []⟩, qD ⟨q.head, (List.replicate 7 (q.atoms.take 1)).flatten⟩, qD ⟨(List.replicate 5 (q.head.take 1)).flatten, q.atoms⟩]) (i := 1) (by simp)), b2, g2⟩
    · exact ⟨T2, _, fin 2 3 T2 _ hm et (ixl_map id (l := [qD ⟨q.head, []⟩, qD ⟨q.head, (List.replicate 7 (q.atoms.take 1)).flatten⟩, qD ⟨(List.replicate 5 (q.head.take 1)).flatten, q.atoms⟩]) (i := 2) (by simp)), b3, g3⟩
end K67
set_option Elab.async false
set_option linter.all false
set_option maxRecDepth 100000
set_option maxHeartbeats 4000000
namespace K67
open PySem PySem.Spec PyProof.Rows L2 VH VC
theorem kindS_ite (b : Bool) : (if b then (.str (Str.ofString "x") : D) else .int 1) = vD (if b then some (.inr (Str.ofString "x")) else some (.inl 1)) := by cases b <;> rfl
theorem bad_list (b : Bool) : (badL b).map tmD = [.tuple [.str (Str.ofString "is"), if b then .str (Str.ofString "x") else .int 1], .tuple [.str (Str.ofString "is"), .none], .tuple [.str (Str.ofString "var"), .str (Str.ofString "")], .tuple [.str (Str.ofString "var"), .str (Str.ofString "A")], .tuple [.str (Str.ofString "var"), .str (Str.ofString "a1")], .none] := by
  rw [kindS_ite]; rfl
theorem wrong_comp (b : Bool) (ts : List Term) (hl : ts.length ≤ 100) (X0 X1 X2 X3 X4 X5 X7 X8 X9 : Option O) : pComp (pSeq itemsD (pVar 10)) (tgN 11) [11] (fun _ => .ok true) (pBin addD (pAll tupD (pCons (pVar 11) (pNil))) (pSl (pVar 6) (pPart (pC (.int 1))) (pPart0)))
    [X0, X1, X2, X3, X4, X5, some (.sh (.tuple (ts.map tmD))), X7, X8, X9, some (.sh (.list ((badL b).map tmD))), none] = .ok (.list (((badL b).map fun t => t :: ts.tail).map fun l => .tuple (l.map tmD))) := by
  refine pCompL_eq (items := (badL b).map tmD) (by simp only [pr_run, out, oR, sSeq, sIf, eP, ePk, ePkT, eFr, frzS, frz1, shE, VH.shS_sh, VH.shS_lst, VH.shS_dic, VH.shS_scr, VH.shS_none, pVar, pC, pBin, pChain, pUn, pMap, pB, pTru, pNN, pNNo, pAnd, pOr, pNot, pAndV, pOrV, pNotV, pIf, pNil, pCons, pAll, pPart, pPart0, pSl, pM1, pSeq, pSeq2, pCall_pr, pGet2, pGet3, isDic, Pr.bind, Pr.lift, eAnd, eOr, eNot, eB, bnd, eBin, eUn, eSub, eC, VH.ret, lift, eVar, eSh, eFz, sSet, sRet, sPut, sAsg, sPar, sPar3, sFz, tgN, tgT, tgSeq, eAll, eCons, eNil, eIf, sDo, sApp, sExt, sNext, oLst, oAdd, oIf, oList, oDic0, eMov, eSl, ePart, eCallU, aNil, aVal, aBor, takeA, putA, sRaise, List.getElem?_cons_zero, List.getElem?_cons_succ, List.set_cons_zero, List.set_cons_succ, Nat.reduceSub, Nat.reduceAdd, Nat.reduceLT, Nat.reduceLeDiff, Option.bind, Option.map, O.fzb, O.fzbK, fz, blD, VH.isN_none, VH.isN_int, VH.isN_str, VH.isN_bool, VH.isN_tup, VH.isN_lst, VH.isN_dic, vi_int, vi_bool, vi_str, vi_tuple, vi_list, vi_dict, truD, flR, flRA, List.map_cons, List.map_nil, List.replicate, List.cons_append, List.nil_append, List.length_cons, List.length_nil, if_true, if_false, ite_true, ite_false, Bool.false_eq_true, decide_true, decide_false, beq_self_eq_true, Bool.not_true, Bool.not_false, and_self, and_true, true_and, and_false, false_and, Bool.or_true, Bool.true_or, Bool.or_false, Bool.false_or, Bool.and_true, Bool.and_false, Bool.true_and, Bool.false_and, ne_eq, not_false_eq_true, not_true_eq_false, reduceCtorEq, VH.eq_str, VH.ne_str, VH.eq_int, VH.ne_int, VH.add_int, VH.le_int, VH.lt_int, VH.gt_int, VH.ge_int, VH.ixt0, VH.ixt1, VH.ixt2, VH.ixl0, VH.ixl1, VH.tup0, VH.tup1, VH.tup2, VH.tup3, VH.lst0, VH.lst1, VH.lst2, VH.lst3, VH.len_list, VH.len_tuple, VH.items_list, VH.items_tuple]) ?_
  rw [List.map_map]
  refine mapP_all (k := fun t => PyData.tuple ((t :: ts.tail).map tmD)) fun t _ => ?_
  unfold pItem
  have h1 := cut_tail (ts.map tmD)
  rw [← List.map_tail] at h1
  have h2 := add_tup (xs := [tmD t]) (ys := ts.tail.map tmD) (by simp; omega)
  have h3 : [tmD t] ++ ts.tail.map tmD = (t :: ts.tail).map tmD := rfl
  rw [h3] at h2
  generalize ((t :: ts.tail).map tmD) = R at *
  simp only [pr_run, out, oR, sSeq, sIf, eP, ePk, ePkT, eFr, frzS, frz1, shE, VH.shS_sh, VH.shS_lst, VH.shS_dic, VH.shS_scr, VH.shS_none, pVar, pC, pBin, pChain, pUn, pMap, pB, pTru, pNN, pNNo, pAnd, pOr, pNot, pAndV, pOrV, pNotV, pIf, pNil, pCons, pAll, pPart, pPart0, pSl, pM1, pSeq, pSeq2, pCall_pr, pGet2, pGet3, isDic, Pr.bind, Pr.lift, eAnd, eOr, eNot, eB, bnd, eBin, eUn, eSub, eC, VH.ret, lift, eVar, eSh, eFz, sSet, sRet, sPut, sAsg, sPar, sPar3, sFz, tgN, tgT, tgSeq, eAll, eCons, eNil, eIf, sDo, sApp, sExt, sNext, oLst, oAdd, oIf, oList, oDic0, eMov, eSl, ePart, eCallU, aNil, aVal, aBor, takeA, putA, sRaise, List.getElem?_cons_zero, List.getElem?_cons_succ, List.set_cons_zero, List.set_cons_succ, Nat.reduceSub, Nat.reduceAdd, Nat.reduceLT, Nat.reduceLeDiff, Option.bind, Option.map, O.fzb, O.fzbK, fz, blD, VH.isN_none, VH.isN_int, VH.isN_str, VH.isN_bool, VH.isN_tup, VH.isN_lst, VH.isN_dic, vi_int, vi_bool, vi_str, vi_tuple, vi_list, vi_dict, truD, flR, flRA, List.map_cons, List.map_nil, List.replicate, List.cons_append, List.nil_append, List.length_cons, List.length_nil, if_true, if_false, ite_true, ite_false, Bool.false_eq_true, decide_true, decide_false, beq_self_eq_true, Bool.not_true, Bool.not_false, and_self, and_true, true_and, and_false, false_and, Bool.or_true, Bool.true_or, Bool.or_false, Bool.false_or, Bool.and_true, Bool.and_false, Bool.true_and, Bool.false_and, ne_eq, not_false_eq_true, not_true_eq_false, reduceCtorEq, VH.eq_str, VH.ne_str, VH.eq_int, VH.ne_int, VH.add_int, VH.le_int, VH.lt_int, VH.gt_int, VH.ge_int, VH.ixt0, VH.ixt1, VH.ixt2, VH.ixl0, VH.ixl1, VH.tup0, VH.tup1, VH.tup2, VH.tup3, VH.lst0, VH.lst1, VH.lst2, VH.lst3, VH.len_list, VH.len_tuple, VH.items_list, VH.items_tuple, dropE, ixI, h1, h2]
theorem ix_col (c : Col) : idxD (colD c) (.int 1) = some (.str (kindS c.int)) := VH.ixt1 _ _ _
theorem ix_cols0 (c : Col) (cs : List Col) : idxD (.list ((c :: cs).map colD)) (.int 0) = some (colD c) := VH.ixl0 _ _
theorem fa_terms {s : Sch} (q : Qn) (p : Pq q) (T : Tape) (ht : ∀ a ∈ q.atoms, ∃ c cs, s.lookup a.1 = some (c :: cs) ∧ a.2.length ≤ 50) : ∃ (T' : Tape) (i : Nat) (h : i < q.atoms.length) (c : Col) (cs : List Col) (l : List Term), s.lookup (q.atoms[i]).1 = some (c :: cs) ∧ l ∈ wrongL c.int (q.atoms[i]).2 ∧
    r_faulty [tapeO T, .sh (scD s), .sh (qD q), .sh (.str (Str.ofString "terms"))] = .ok (.sh (qD ⟨q.head, q.atoms.set i ((q.atoms[i]).1, l)⟩)) [some (tapeO T'), none, none, none] := by
  obtain ⟨i, T1, hi, e⟩ := fa_start q p (some (.sh (scD s))) (some (.sh (.str (Str.ofString "terms")))) T
  obtain ⟨c, cs, hc, hl⟩ := ht q.atoms[i] (List.getElem_mem _)
  obtain ⟨r, T2, et, hr⟩ := take_ex T1 (m := 8) (by decide) (by decide)
  have hwl : (wrongL c.int (q.atoms[i]).2).length = 8 := rfl
  have hr' : r < (wrongL c.int (q.atoms[i]).2).length := by omega
  refine ⟨T2, i, hi, c, cs, (wrongL c.int (q.atoms[i]).2)[r], hc, List.getElem_mem _, ?_⟩
  have e1 := idx_sc hc
  have e2 := idx_tb (c :: cs)
  have e3 := ix_cols0 c cs
  have e4 := ix_col c
  have hk := kindS_int c.int
  have hw := with_ok q hi (wrongL c.int (q.atoms[i]).2)[r]
  have hix := ixl_map (fun l : List Term => PyData.tuple (l.map tmD)) hr'
  generalize hts : (q.atoms[i]).2 = ts at *
  generalize hnm : (q.atoms[i]).1 = nm at *
  have h1 := cut_last (ts.map tmD)
  rw [← List.map_dropLast] at h1
  have h2 := add_tup (xs := ts.map tmD) (ys := [.none]) (by simp; omega)
  have h3 : ts.map tmD ++ [.none] = (ts ++ [Term.any]).map tmD := by rw [List.map_append]; rfl
  rw [h3] at h2
  have hadd := add_list (xs := [.tuple ((ts ++ [Term.any]).map tmD), .tuple (ts.dropLast.map tmD)]) (ys := (((badL c.int).map fun t => t :: ts.tail).map fun l => PyData.tuple (l.map tmD))) (by simp [badL])
  have hW : [PyData.tuple ((ts ++ [Term.any]).map tmD), .tuple (ts.dropLast.map tmD)] ++ (((badL c.int).map fun t => t :: ts.tail).map fun l => PyData.tuple (l.map tmD)) = (wrongL c.int ts).map fun l => PyData.tuple (l.map tmD) := by
    unfold wrongL
    rfl
  rw [hW] at hadd
  have hb := bad_list c.int
  have hcomp := wrong_comp c.int ts (by omega)
  unfold r_faulty fnRun b__law_faulty
  simp only [List.map_cons, List.map_nil, List.length_cons, List.length_nil, Nat.reduceSub, Nat.reduceAdd, List.replicate, List.cons_append, List.nil_append]
  rw [e]
  rw [seq_ok (e := [some (tapeO T1), some (.sh (scD s)), some (.sh (qD q)), some (.sh (.str (Str.ofString "terms"))), some (.sh (.int i)), some (.sh (.str nm)), some (.sh (.tuple (ts.map tmD))), none, none, none, none, none])]
  rotate_left
  · simp only [pr_run, out, oR, sSeq, sIf, eP, ePk, ePkT, eFr, frzS, frz1, shE, VH.shS_sh, VH.shS_lst, VH.shS_dic, VH.shS_scr, VH.shS_none, pVar, pC, pBin, pChain, pUn, pMap, pB, pTru, pNN, pNNo, pAnd, pOr, pNot, pAndV, pOrV, pNotV, pIf, pNil, pCons, pAll, pPart, pPart0, pSl, pM1, pSeq, pSeq2, pCall_pr, pGet2, pGet3, isDic, Pr.bind, Pr.lift, eAnd, eOr, eNot, eB, bnd, eBin, eUn, eSub, eC, VH.ret, lift, eVar, eSh, eFz, sSet, sRet, sPut, sAsg, sPar, sPar3, sFz, tgN, tgT, tgSeq, eAll, eCons, eNil, eIf, sDo, sApp, sExt, sNext, oLst, oAdd, oIf, oList, oDic0, eMov, eSl, ePart, eCallU, aNil, aVal, aBor, takeA, putA, sRaise, List.getElem?_cons_zero, List.getElem?_cons_succ, List.set_cons_zero, List.set_cons_succ, Nat.reduceSub, Nat.reduceAdd, Nat.reduceLT, Nat.reduceLeDiff, Option.bind, Option.map, O.fzb, O.fzbK, fz, blD, VH.isN_none, VH.isN_int, VH.isN_str, VH.isN_bool, VH.isN_tup, VH.isN_lst, VH.isN_dic, vi_int, vi_bool, vi_str, vi_tuple, vi_list, vi_dict, truD, flR, flRA, List.map_cons, List.map_nil, List.replicate, List.cons_append, List.nil_append, List.length_cons, List.length_nil, if_true, if_false, ite_true, ite_false, Bool.false_eq_true, decide_true, decide_false, beq_self_eq_true, Bool.not_true, Bool.not_false, and_self, and_true, true_and, and_false, false_and, Bool.or_true, Bool.true_or, Bool.or_false, Bool.false_or, Bool.and_true, Bool.and_false, Bool.true_and, Bool.false_and, ne_eq, not_false_eq_true, not_true_eq_false, reduceCtorEq, VH.eq_str, VH.ne_str, VH.eq_int, VH.ne_int, VH.add_int, VH.le_int, VH.lt_int, VH.gt_int, VH.ge_int, VH.ixt0, VH.ixt1, VH.ixt2, VH.ixl0, VH.ixl1, VH.tup0, VH.tup1, VH.tup2, VH.tup3, VH.lst0, VH.lst1, VH.lst2, VH.lst3, VH.len_list, VH.len_tuple, VH.items_list, VH.items_tuple, c_tm_sz]
  rw [seq_ok (e := [some (tapeO T1), some (.sh (scD s)), some (.sh (qD q)), some (.sh (.str (Str.ofString "terms"))), some (.sh (.int i)), some (.sh (.str nm)), some (.sh (.tuple (ts.map tmD))), none, none, none, none, none])]
  rotate_left
  · simp only [pr_run, out, oR, sSeq, sIf, eP, ePk, ePkT, eFr, frzS, frz1, shE, VH.shS_sh, VH.shS_lst, VH.shS_dic, VH.shS_scr, VH.shS_none, pVar, pC, pBin, pChain, pUn, pMap, pB, pTru, pNN, pNNo, pAnd, pOr, pNot, pAndV, pOrV, pNotV, pIf, pNil, pCons, pAll, pPart, pPart0, pSl, pM1, pSeq, pSeq2, pCall_pr, pGet2, pGet3, isDic, Pr.bind, Pr.lift, eAnd, eOr, eNot, eB, bnd, eBin, eUn, eSub, eC, VH.ret, lift, eVar, eSh, eFz, sSet, sRet, sPut, sAsg, sPar, sPar3, sFz, tgN, tgT, tgSeq, eAll, eCons, eNil, eIf, sDo, sApp, sExt, sNext, oLst, oAdd, oIf, oList, oDic0, eMov, eSl, ePart, eCallU, aNil, aVal, aBor, takeA, putA, sRaise, List.getElem?_cons_zero, List.getElem?_cons_succ, List.set_cons_zero, List.set_cons_succ, Nat.reduceSub, Nat.reduceAdd, Nat.reduceLT, Nat.reduceLeDiff, Option.bind, Option.map, O.fzb, O.fzbK, fz, blD, VH.isN_none, VH.isN_int, VH.isN_str, VH.isN_bool, VH.isN_tup, VH.isN_lst, VH.isN_dic, vi_int, vi_bool, vi_str, vi_tuple, vi_list, vi_dict, truD, flR, flRA, List.map_cons, List.map_nil, List.replicate, List.cons_append, List.nil_append, List.length_cons, List.length_nil, if_true, if_false, ite_true, ite_false, Bool.false_eq_true, decide_true, decide_false, beq_self_eq_true, Bool.not_true, Bool.not_false, and_self, and_true, true_and, and_false, false_and, Bool.or_true, Bool.true_or, Bool.or_false, Bool.false_or, Bool.and_true, Bool.and_false, Bool.true_and, Bool.false_and, ne_eq, not_false_eq_true, not_true_eq_false, reduceCtorEq, VH.eq_str, VH.ne_str, VH.eq_int, VH.ne_int, VH.add_int, VH.le_int, VH.lt_int, VH.gt_int, VH.ge_int, VH.ixt0, VH.ixt1, VH.ixt2, VH.ixl0, VH.ixl1, VH.tup0, VH.tup1, VH.tup2, VH.tup3, VH.lst0, VH.lst1, VH.lst2, VH.lst3, VH.len_list, VH.len_tuple, VH.items_list, VH.items_tuple, c_tm_tb]
  have B : ∀ (w7 w9 w10 : Option O), ([some (tapeO T1), some (.sh (scD s)), some (.sh (qD q)), some (.sh (.str (Str.ofString "terms"))), some (.sh (.int i)), some (.sh (.str nm)), some (.sh (.tuple (ts.map tmD))), w7, none, w9, w10, none] : En) = [some (tapeO T1), some (.sh (scD s)), some (.sh (qD q)), some (.sh (.str (Str.ofString "terms"))), some (.sh (.int i)), some (.sh (.str nm)), some (.sh (.tuple (ts.map tmD))), w7, none, w9, w10, none] := fun _ _ _ => rfl
  rw [seq_ret (o := .sh (qD ⟨q.head, q.atoms.set i (nm, (wrongL c.int ts)[r])⟩)) (e := [some (tapeO T2), some (.sh (scD s)), some (.sh (qD q)), some (.sh (.str (Str.ofString "terms"))), some (.sh (.int i)), some (.sh (.str nm)), some (.sh (.tuple (ts.map tmD))), some (.sh (.list ((wrongL c.int ts).map fun l => PyData.tuple (l.map tmD)))), none, some (.sh (.str (kindS c.int))), some (.sh (.list ((badL c.int).map tmD))), none])]
  · rfl
  unfold sIf
  simp only [bnd, eP, shE, pB, pBin, pVar, pC, Pr.bind, Pr.lift, List.map_cons, List.map_nil, VH.shS_sh, VH.shS_none, List.getElem?_cons_succ, List.getElem?_cons_zero, VH.eq_str, beq_self_eq_true, blD, if_true]
  rw [seq_ok (e := [some (tapeO T1), some (.sh (scD s)), some (.sh (qD q)), some (.sh (.str (Str.ofString "terms"))), some (.sh (.int i)), some (.sh (.str nm)), some (.sh (.tuple (ts.map tmD))), none, none, some (.sh (.str (kindS c.int))), none, none])]
  rotate_left
  · generalize (PyData.list ((c :: cs).map colD)) = CL at *
    simp only [pr_run, out, oR, sSeq, sIf, eP, ePk, ePkT, eFr, frzS, frz1, shE, VH.shS_sh, VH.shS_lst, VH.shS_dic, VH.shS_scr, VH.shS_none, pVar, pC, pBin, pChain, pUn, pMap, pB, pTru, pNN, pNNo, pAnd, pOr, pNot, pAndV, pOrV, pNotV, pIf, pNil, pCons, pAll, pPart, pPart0, pSl, pM1, pSeq, pSeq2, pCall_pr, pGet2, pGet3, isDic, Pr.bind, Pr.lift, eAnd, eOr, eNot, eB, bnd, eBin, eUn, eSub, eC, VH.ret, lift, eVar, eSh, eFz, sSet, sRet, sPut, sAsg, sPar, sPar3, sFz, tgN, tgT, tgSeq, eAll, eCons, eNil, eIf, sDo, sApp, sExt, sNext, oLst, oAdd, oIf, oList, oDic0, eMov, eSl, ePart, eCallU, aNil, aVal, aBor, takeA, putA, sRaise, List.getElem?_cons_zero, List.getElem?_cons_succ, List.set_cons_zero, List.set_cons_succ, Nat.reduceSub, Nat.reduceAdd, Nat.reduceLT, Nat.reduceLeDiff, Option.bind, Option.map, O.fzb, O.fzbK, fz, blD, VH.isN_none, VH.isN_int, VH.isN_str, VH.isN_bool, VH.isN_tup, VH.isN_lst, VH.isN_dic, vi_int, vi_bool, vi_str, vi_tuple, vi_list, vi_dict, truD, flR, flRA, List.map_cons, List.map_nil, List.replicate, List.cons_append, List.nil_append, List.length_cons, List.length_nil, if_true, if_false, ite_true, ite_false, Bool.false_eq_true, decide_true, decide_false, beq_self_eq_true, Bool.not_true, Bool.not_false, and_self, and_true, true_and, and_false, false_and, Bool.or_true, Bool.true_or, Bool.or_false, Bool.false_or, Bool.and_true, Bool.and_false, Bool.true_and, Bool.false_and, ne_eq, not_false_eq_true, not_true_eq_false, reduceCtorEq, VH.eq_str, VH.ne_str, VH.eq_int, VH.ne_int, VH.add_int, VH.le_int, VH.lt_int, VH.gt_int, VH.ge_int, VH.ixt0, VH.ixt1, VH.ixt2, VH.ixl0, VH.ixl1, VH.tup0, VH.tup1, VH.tup2, VH.tup3, VH.lst0, VH.lst1, VH.lst2, VH.lst3, VH.len_list, VH.len_tuple, VH.items_list, VH.items_tuple, e1, e2, e3, e4]
  rw [seq_ok (e := [some (tapeO T1), some (.sh (scD s)), some (.sh (qD q)), some (.sh (.str (Str.ofString "terms"))), some (.sh (.int i)), some (.sh (.str nm)), some (.sh (.tuple (ts.map tmD))), none, none, some (.sh (.str (kindS c.int))), some (.sh (.list ((badL c.int).map tmD))), none])]
  rotate_left
  · rw [hb]
    cases hci : c.int with
    | true =>
      rw [hci] at hk
      simp only [pr_run, out, oR, sSeq, sIf, eP, ePk, ePkT, eFr, frzS, frz1, shE, VH.shS_sh, VH.shS_lst, VH.shS_dic, VH.shS_scr, VH.shS_none, pVar, pC, pBin, pChain, pUn, pMap, pB, pTru, pNN, pNNo, pAnd, pOr, pNot, pAndV, pOrV, pNotV, pIf, pNil, pCons, pAll, pPart, pPart0, pSl, pM1, pSeq, pSeq2, pCall_pr, pGet2, pGet3, isDic, Pr.bind, Pr.lift, eAnd, eOr, eNot, eB, bnd, eBin, eUn, eSub, eC, VH.ret, lift, eVar, eSh, eFz, sSet, sRet, sPut, sAsg, sPar, sPar3, sFz, tgN, tgT, tgSeq, eAll, eCons, eNil, eIf, sDo, sApp, sExt, sNext, oLst, oAdd, oIf, oList, oDic0, eMov, eSl, ePart, eCallU, aNil, aVal, aBor, takeA, putA, sRaise, List.getElem?_cons_zero, List.getElem?_cons_succ, List.set_cons_zero, List.set_cons_succ, Nat.reduceSub, Nat.reduceAdd, Nat.reduceLT, Nat.reduceLeDiff, Option.bind, Option.map, O.fzb, O.fzbK, fz, blD, VH.isN_none, VH.isN_int, VH.isN_str, VH.isN_bool, VH.isN_tup, VH.isN_lst, VH.isN_dic, vi_int, vi_bool, vi_str, vi_tuple, vi_list, vi_dict, truD, flR, flRA, List.map_cons, List.map_nil, List.replicate, List.cons_append, List.nil_append, List.length_cons, List.length_nil, if_true, if_false, ite_true, ite_false, Bool.false_eq_true, decide_true, decide_false, beq_self_eq_true, Bool.not_true, Bool.not_false, and_self, and_true, true_and, and_false, false_and, Bool.or_true, Bool.true_or, Bool.or_false, Bool.false_or, Bool.and_true, Bool.and_false, Bool.true_and, Bool.false_and, ne_eq, not_false_eq_true, not_true_eq_false, reduceCtorEq, VH.eq_str, VH.ne_str, VH.eq_int, VH.ne_int, VH.add_int, VH.le_int, VH.lt_int, VH.gt_int, VH.ge_int, VH.ixt0, VH.ixt1, VH.ixt2, VH.ixl0, VH.ixl1, VH.tup0, VH.tup1, VH.tup2, VH.tup3, VH.lst0, VH.lst1, VH.lst2, VH.lst3, VH.len_list, VH.len_tuple, VH.items_list, VH.items_tuple, hk, lst6]
    | false =>
      rw [hci] at hk
      simp only [pr_run, out, oR, sSeq, sIf, eP, ePk, ePkT, eFr, frzS, frz1, shE, VH.shS_sh, VH.shS_lst, VH.shS_dic, VH.shS_scr, VH.shS_none, pVar, pC, pBin, pChain, pUn, pMap, pB, pTru, pNN, pNNo, pAnd, pOr, pNot, pAndV, pOrV, pNotV, pIf, pNil, pCons, pAll, pPart, pPart0, pSl, pM1, pSeq, pSeq2, pCall_pr, pGet2, pGet3, isDic, Pr.bind, Pr.lift, eAnd, eOr, eNot, eB, bnd, eBin, eUn, eSub, eC, VH.ret, lift, eVar, eSh, eFz, sSet, sRet, sPut, sAsg, sPar, sPar3, sFz, tgN, tgT, tgSeq, eAll, eCons, eNil, eIf, sDo, sApp, sExt, sNext, oLst, oAdd, oIf, oList, oDic0, eMov, eSl, ePart, eCallU, aNil, aVal, aBor, takeA, putA, sRaise, List.getElem?_cons_zero, List.getElem?_cons_succ, List.set_cons_zero, List.set_cons_succ, Nat.reduceSub, Nat.reduceAdd, Nat.reduceLT, Nat.reduceLeDiff, Option.bind, Option.map, O.fzb, O.fzbK, fz, blD, VH.isN_none, VH.isN_int, VH.isN_str, VH.isN_bool, VH.isN_tup, VH.isN_lst, VH.isN_dic, vi_int, vi_bool, vi_str, vi_tuple, vi_list, vi_dict, truD, flR, flRA, List.map_cons, List.map_nil, List.replicate, List.cons_append, List.nil_append, List.length_cons, List.length_nil, if_true, if_false, ite_true, ite_false, Bool.false_eq_true, decide_true, decide_false, beq_self_eq_true, Bool.not_true, Bool.not_false, and_self, and_true, true_and, and_false, false_and, Bool.or_true, Bool.true_or, Bool.or_false, Bool.false_or, Bool.and_true, Bool.and_false, Bool.true_and, Bool.false_and, ne_eq, not_false_eq_true, not_true_eq_false, reduceCtorEq, VH.eq_str, VH.ne_str, VH.eq_int, VH.ne_int, VH.add_int, VH.le_int, VH.lt_int, VH.gt_int, VH.ge_int, VH.ixt0, VH.ixt1, VH.ixt2, VH.ixl0, VH.ixl1, VH.tup0, VH.tup1, VH.tup2, VH.tup3, VH.lst0, VH.lst1, VH.lst2, VH.lst3, VH.len_list, VH.len_tuple, VH.items_list, VH.items_tuple, hk, lst6]
  generalize hWL : ((wrongL c.int ts).map fun l => PyData.tuple (l.map tmD)) = WL at *
  generalize (wrongL c.int ts)[r] = L at *
  generalize hBL : (badL c.int).map tmD = BL at *
  generalize hCL : (((badL c.int).map fun t => t :: ts.tail).map fun l => PyData.tuple (l.map tmD)) = CL at *
  have hcomp' := hcomp none (some (.sh (scD s))) (some (.sh (qD q))) (some (.sh (.str (Str.ofString "terms")))) (some (.sh (.int i))) (some (.sh (.str nm))) none none (some (.sh (.str (kindS c.int))))
  rw [seq_ok (e := [some (tapeO T1), some (.sh (scD s)), some (.sh (qD q)), some (.sh (.str (Str.ofString "terms"))), some (.sh (.int i)), some (.sh (.str nm)), some (.sh (.tuple (ts.map tmD))), some (.sh (.list WL)), none, some (.sh (.str (kindS c.int))), some (.sh (.list BL)), none])]
  rotate_left
  · have ho : shS (some (tapeO T1)) = none := rfl
    have hneg : negD (.int 1) = some (.int (-1)) := rfl
    simp only [pr_run, out, oR, sSeq, sIf, eP, ePk, ePkT, eFr, frzS, frz1, shE, VH.shS_sh, VH.shS_lst, VH.shS_dic, VH.shS_scr, VH.shS_none, pVar, pC, pBin, pChain, pUn, pMap, pB, pTru, pNN, pNNo, pAnd, pOr, pNot, pAndV, pOrV, pNotV, pIf, pNil, pCons, pAll, pPart, pPart0, pSl, pM1, pSeq, pSeq2, pCall_pr, pGet2, pGet3, isDic, Pr.bind, Pr.lift, eAnd, eOr, eNot, eB, bnd, eBin, eUn, eSub, eC, VH.ret, lift, eVar, eSh, eFz, sSet, sRet, sPut, sAsg, sPar, sPar3, sFz, tgN, tgT, tgSeq, eAll, eCons, eNil, eIf, sDo, sApp, sExt, sNext, oLst, oAdd, oIf, oList, oDic0, eMov, eSl, ePart, eCallU, aNil, aVal, aBor, takeA, putA, sRaise, List.getElem?_cons_zero, List.getElem?_cons_succ, List.set_cons_zero, List.set_cons_succ, Nat.reduceSub, Nat.reduceAdd, Nat.reduceLT, Nat.reduceLeDiff, Option.bind, Option.map, O.fzb, O.fzbK, fz, blD, VH.isN_none, VH.isN_int, VH.isN_str, VH.isN_bool, VH.isN_tup, VH.isN_lst, VH.isN_dic, vi_int, vi_bool, vi_str, vi_tuple, vi_list, vi_dict, truD, flR, flRA, List.map_cons, List.map_nil, List.replicate, List.cons_append, List.nil_append, List.length_cons, List.length_nil, if_true, if_false, ite_true, ite_false, Bool.false_eq_true, decide_true, decide_false, beq_self_eq_true, Bool.not_true, Bool.not_false, and_self, and_true, true_and, and_false, false_and, Bool.or_true, Bool.true_or, Bool.or_false, Bool.false_or, Bool.and_true, Bool.and_false, Bool.true_and, Bool.false_and, ne_eq, not_false_eq_true, not_true_eq_false, reduceCtorEq, VH.eq_str, VH.ne_str, VH.eq_int, VH.ne_int, VH.add_int, VH.le_int, VH.lt_int, VH.gt_int, VH.ge_int, VH.ixt0, VH.ixt1, VH.ixt2, VH.ixl0, VH.ixl1, VH.tup0, VH.tup1, VH.tup2, VH.tup3, VH.lst0, VH.lst1, VH.lst2, VH.lst3, VH.len_list, VH.len_tuple, VH.items_list, VH.items_tuple, ho, h2, h1, hneg, ixI, hcomp', hadd]
  simp only [pr_run, out, oR, sSeq, sIf, eP, ePk, ePkT, eFr, frzS, frz1, shE, VH.shS_sh, VH.shS_lst, VH.shS_dic, VH.shS_scr, VH.shS_none, pVar, pC, pBin, pChain, pUn, pMap, pB, pTru, pNN, pNNo, pAnd, pOr, pNot, pAndV, pOrV, pNotV, pIf, pNil, pCons, pAll, pPart, pPart0, pSl, pM1, pSeq, pSeq2, pCall_pr, pGet2, pGet3, isDic, Pr.bind, Pr.lift, eAnd, eOr, eNot, eB, bnd, eBin, eUn, eSub, eC, VH.ret, lift, eVar, eSh, eFz, sSet, sRet, sPut, sAsg, sPar, sPar3, sFz, tgN, tgT, tgSeq, eAll, eCons, eNil, eIf, sDo, sApp, sExt, sNext, oLst, oAdd, oIf, oList, oDic0, eMov, eSl, ePart, eCallU, aNil, aVal, aBor, takeA, putA, sRaise, List.getElem?_cons_zero, List.getElem?_cons_succ, List.set_cons_zero, List.set_cons_succ, Nat.reduceSub, Nat.reduceAdd, Nat.reduceLT, Nat.reduceLeDiff, Option.bind, Option.map, O.fzb, O.fzbK, fz, blD, VH.isN_none, VH.isN_int, VH.isN_str, VH.isN_bool, VH.isN_tup, VH.isN_lst, VH.isN_dic, vi_int, vi_bool, vi_str, vi_tuple, vi_list, vi_dict, truD, flR, flRA, List.map_cons, List.map_nil, List.replicate, List.cons_append, List.nil_append, List.length_cons, List.length_nil, if_true, if_false, ite_true, ite_false, Bool.false_eq_true, decide_true, decide_false, beq_self_eq_true, Bool.not_true, Bool.not_false, and_self, and_true, true_and, and_false, false_and, Bool.or_true, Bool.true_or, Bool.or_false, Bool.false_or, Bool.and_true, Bool.and_false, Bool.true_and, Bool.false_and, ne_eq, not_false_eq_true, not_true_eq_false, reduceCtorEq, VH.eq_str, VH.ne_str, VH.eq_int, VH.ne_int, VH.add_int, VH.le_int, VH.lt_int, VH.gt_int, VH.ge_int, VH.ixt0, VH.ixt1, VH.ixt2, VH.ixl0, VH.ixl1, VH.tup0, VH.tup1, VH.tup2, VH.tup3, VH.lst0, VH.lst1, VH.lst2, VH.lst3, VH.len_list, VH.len_tuple, VH.items_list, VH.items_tuple, et, hix, hw]
end K67
set_option Elab.async false
set_option linter.all false
set_option maxRecDepth 100000
set_option maxHeartbeats 4000000
namespace K67
open PySem PySem.Spec PyProof.Rows L2 VH VC
/-! ### the plain law -/
theorem var_name (b : Bool) : ∀ x ∈ varsOf b, varName x = true := by cases b <;> decide +kernel
theorem var_len (b : Bool) : ∀ x ∈ varsOf b, x.length ≤ 1000 := by cases b <;> decide +kernel
theorem vars_dis : ∀ x ∈ ivars, x ∉ tvars := by decide +kernel
theorem nowhere_no (b : Bool) : Str.ofString "nowhere" ∉ varsOf b := by cases b <;> decide +kernel
theorem none_no : Str.ofString "none" ∉ tabs := by decide +kernel
theorem vars_eq {a b : Bool} {x : Str} (h1 : x ∈ varsOf a) (h2 : x ∈ varsOf b) : a = b := by
  cases a <;> cases b
  · rfl
  · exact absurd h1 (vars_dis x h2)
  · exact absurd h2 (vars_dis x h1)
  · rfl
theorem small_fits {c : Col} {v : Val} (h : Small c.int false v) : v.isSome = true ∧ fitsCol v c = true := by
  cases v with
  | none => cases h
  | some k =>
    refine ⟨rfl, ?_⟩
    cases k with
    | inl i =>
      obtain ⟨h1, h2, h3⟩ := h
      show ((decide (-999999999 ≤ i) && decide (i ≤ 999999999)) && (true == c.int)) = true
      rw [h1, decide_eq_true (by omega), decide_eq_true (by omega)]; rfl
    | inr x =>
      obtain ⟨h1, h2⟩ := h
      show ((plainS x && decide (x.length ≤ 30)) && (false == c.int)) = true
      have : (plainS x && decide (x.length ≤ 30)) = true := by rcases h2 with rfl | rfl | rfl <;> decide +kernel
      rw [h1, this]; rfl
theorem g_fits {c : Col} {t : Term} (h : GTerm c t) : termFits t c = true := by
  cases t with
  | any => exact h
  | is v =>
    obtain ⟨h1, h2⟩ := small_fits h
    show (v.isSome && fitsCol v c) = true
    rw [h1, h2]; rfl
  | var x => exact var_name _ x h
theorem g_tok {c : Col} {t : Term} (h : GTerm c t) : TOk t := by
  cases t with
  | any => trivial
  | is v =>
    cases v with
    | none => trivial
    | some k => cases k with
      | inl i => trivial
      | inr x =>
        have : x.length ≤ 1000 := by rcases h.2 with rfl | rfl | rfl <;> decide +kernel
        exact this
  | var x => exact var_len _ x h
theorem zip_mem {α β : Type} {xs : List α} {ys : List β} (h : xs.length = ys.length) {x : α} (hx : x ∈ xs) : ∃ y, (x, y) ∈ xs.zip ys := by
  induction xs generalizing ys with
  | nil => cases hx
  | cons a xs ih =>
    cases ys with
    | nil => cases h
    | cons b ys =>
      rcases List.mem_cons.mp hx with rfl | hx
      · exact ⟨b, by simp⟩
      · obtain ⟨y, hy⟩ := ih (ys := ys) (by simpa using h) hx
        exact ⟨y, by rw [List.zip_cons_cons]; exact List.mem_cons_of_mem _ hy⟩
theorem gfits {s : Sch} {a : Atom} (g : GAtom s a) : atomOk s a = true := by
  obtain ⟨cs, hc, hl, hg⟩ := g.ex
  unfold atomOk
  have hcol : colsOf s a.1 = cs := by unfold colsOf; rw [hc]; rfl
  rw [hcol]
  unfold termsFit
  rw [decide_eq_true hl, Bool.true_and, List.all_map]
  refine List.all_eq_true.mpr fun p hp => ?_
  exact g_fits (hg p hp)
theorem gtok {s : Sch} {a : Atom} (g : GAtom s a) : AOk a := fun t ht => by
  obtain ⟨cs, hc, hl, hg⟩ := g.ex
  obtain ⟨c, hp⟩ := zip_mem hl ht
  exact g_tok (hg _ hp)
theorem gtab {s : Sch} {a : Atom} (g : GAtom s a) : tableOk s a = true := by
  obtain ⟨cs, hc, _⟩ := g.ex
  unfold tableOk
  rw [hc]; rfl
/-- the kinds of the variables so far -/
def Kv (f : Fk) : Prop := ∀ x k, f.lookup x = some k → x ∈ varsOf k
theorem look_snoc {f : Fk} {x y : Str} {b : Bool} : (f ++ [(x, b)]).lookup y = (f.lookup y).or (if y = x then some b else none) := by
  induction f with
  | nil =>
    rw [List.nil_append, List.lookup_cons]
    by_cases h : y = x
    · subst h; simp
    · have : (y == x) = false := by simpa using h
      rw [this, if_neg h]; rfl
  | cons p f ih =>
    rw [List.cons_append, List.lookup_cons, List.lookup_cons, ih]
    cases (y == p.1) <;> rfl
theorem kfold : ∀ (ps : List (Term × Col)) (f : Fk), Kv f → (∀ p ∈ ps, GTerm p.2 p.1) → ∃ f', ps.foldlM kstep f = .ok f' ∧ Kv f' ∧ (∀ x, (f.lookup x).isSome = true → (f'.lookup x).isSome = true) ∧ ∀ p ∈ ps, ∀ x, p.1 = .var x → (f'.lookup x).isSome = true
  | [], f, hk, _ => ⟨f, rfl, hk, (fun _ h => h), (fun _ h => nomatch h)⟩
  | (t, c) :: ps, f, hk, hg => by
    have h0 := hg _ List.mem_cons_self
    have one : ∃ f1, kstep f (t, c) = .ok f1 ∧ Kv f1 ∧ (∀ x, (f.lookup x).isSome = true → (f1.lookup x).isSome = true) ∧ ∀ x, t = .var x → (f1.lookup x).isSome = true := by
      cases t with
      | any => exact ⟨f, rfl, hk, (fun _ h => h), (fun _ h => nomatch h)⟩
      | is v => exact ⟨f, rfl, hk, (fun _ h => h), (fun _ h => nomatch h)⟩
      | var x =>
        have hx : x ∈ varsOf c.int := h0
        cases hl : f.lookup x with
        | some k =>
          have : k = c.int := vars_eq (hk x k hl) hx
          refine ⟨f, by simp only [kstep, hl, if_pos this], hk, (fun _ h => h), fun y hy => ?_⟩
          cases hy
          rw [hl]; rfl
        | none =>
          refine ⟨f ++ [(x, c.int)], by simp only [kstep, hl], fun y k hy => ?_, fun y hy => ?_, fun y hy => ?_⟩
          · rw [look_snoc] at hy
            cases hf : f.lookup y with
            | some k2 =>
              rw [hf] at hy
              cases hy
              exact hk y _ hf
            | none =>
              rw [hf, Option.none_or] at hy
              split at hy
              · rename_i e
                cases hy
                rw [e]; exact hx
              · cases hy
          · rw [look_snoc]
            cases hf : f.lookup y with
            | some k2 => rfl
            | none => rw [hf] at hy; cases hy
          · cases hy
            rw [look_snoc, hl, if_pos rfl]; rfl
    obtain ⟨f1, e1, k1, m1, v1⟩ := one
    obtain ⟨f2, e2, k2, m2, v2⟩ := kfold ps f1 k1 fun p hp => hg p (List.mem_cons_of_mem _ hp)
    refine ⟨f2, ?_, k2, fun x hx => m2 x (m1 x hx), fun p hp x hx => ?_⟩
    · rw [List.foldlM_cons, e1]; exact e2
    · rcases List.mem_cons.mp hp with rfl | hp
      · exact m2 x (v1 x hx)
      · exact v2 p hp x hx
theorem kfoldA {s : Sch} : ∀ (as : List Atom) (f : Fk), Kv f → (∀ a ∈ as, GAtom s a) → ∃ f', as.foldlM (katom s) f = .ok f' ∧ Kv f' ∧ (∀ x, (f.lookup x).isSome = true → (f'.lookup x).isSome = true) ∧ ∀ a ∈ as, ∀ x, Term.var x ∈ a.2 → (f'.lookup x).isSome = true
  | [], f, hk, _ => ⟨f, rfl, hk, (fun _ h => h), (fun _ h => nomatch h)⟩
  | a :: as, f, hk, hg => by
    have ga := hg a List.mem_cons_self
    obtain ⟨cs, hc, hl, hgt⟩ := ga.ex
    have hcol : colsOf s a.1 = cs := by unfold colsOf; rw [hc]; rfl
    obtain ⟨f1, e1, k1, m1, v1⟩ := kfold (a.2.zip cs) f hk hgt
    obtain ⟨f2, e2, k2, m2, v2⟩ := kfoldA as f1 k1 fun b hb => hg b (List.mem_cons_of_mem _ hb)
    refine ⟨f2, ?_, k2, fun x hx => m2 x (m1 x hx), fun b hb x hx => ?_⟩
    · rw [List.foldlM_cons]
      unfold katom
      rw [hcol, e1]; exact e2
    · rcases List.mem_cons.mp hb with rfl | hb
      · obtain ⟨c, hp⟩ := zip_mem hl hx
        exact m2 x (v1 _ hp x rfl)
      · exact v2 b hb x hx
theorem kinds_some {s : Sch} {as : List Atom} (hg : ∀ a ∈ as, GAtom s a) : ∃ f, kindsR s as = some f ∧ Kv f ∧ ∀ a ∈ as, ∀ x, Term.var x ∈ a.2 → (f.lookup x).isSome = true := by
  obtain ⟨f, e, k, _, v⟩ := kfoldA as [] (fun x k h => nomatch h) hg
  refine ⟨f, ?_, k, v⟩
  unfold kindsR kindsOf
  rw [e]
theorem check_fine {s : Sch} {q : Qn} (g : GQ s 4 q) : checkQ s q = none := by
  obtain ⟨f, ef, _, v⟩ := kinds_some g.ga
  have hz : sizeBad q = false := by
    unfold sizeBad
    have h1 := g.l1
    have h2 := g.l2
    have h3 := g.hl
    rw [decide_eq_true h1, decide_eq_true (by omega), decide_eq_false (by omega)]; rfl
  unfold checkQ
  rw [hz, if_neg Bool.false_ne_true, if_pos (List.all_eq_true.mpr fun a ha => gtab (g.ga a ha)), if_pos (List.all_eq_true.mpr fun a ha => gfits (g.ga a ha)), ef]
  dsimp only
  rw [if_pos]
  rw [List.all_map]
  refine List.all_eq_true.mpr fun x hx => ?_
  obtain ⟨a, ha, hv⟩ := g.hv x hx
  exact v a ha x hv
theorem check_size {s : Sch} {q : Qn} (h : sizeBad q = true) : checkQ s q = some (Str.ofString "size") := by
  unfold checkQ
  rw [if_pos h]
theorem not_big {q : Qn} (p : Pq q) : sizeBad q = false := by
  unfold sizeBad
  have h1 := p.l1
  have h2 := p.l2
  have h3 := p.lh
  rw [decide_eq_true h1, decide_eq_true (by omega), decide_eq_false (by omega)]; rfl
theorem no_table {s : Sch} (w : WSch s) : s.lookup (Str.ofString "none") = none := by
  obtain ⟨k, hk, e⟩ := w.nm
  rw [List.lookup_eq_none_iff]
  intro p hp
  have h1 : p.1 ∈ tabs.take k := by rw [← e]; exact List.mem_map.mpr ⟨p, hp, rfl⟩
  have h2 : p.1 ∈ tabs := List.mem_of_mem_take h1
  have : Str.ofString "none" ≠ p.1 := fun q => none_no (q ▸ h2)
  simpa using this
theorem pq_set {q : Qn} (p : Pq q) (i : Nat) (a : Atom) : Pq ⟨q.head, q.atoms.set i a⟩ := ⟨by dsimp only; rw [List.length_set]; exact p.l1, by dsimp only; rw [List.length_set]; exact p.l2, p.lh⟩
theorem check_table {s : Sch} (w : WSch s) {q : Qn} (p : Pq q) {i : Nat} (h : i < q.atoms.length) (ts : List Term) : checkQ s ⟨q.head, q.atoms.set i (Str.ofString "none", ts)⟩ = some (Str.ofString "table") := by
  unfold checkQ
  rw [not_big (pq_set p i _), if_neg Bool.false_ne_true, if_neg]
  intro hall
  have hm : (Str.ofString "none", ts) ∈ q.atoms.set i (Str.ofString "none", ts) := List.mem_set h _
  have := List.all_eq_true.mp hall _ hm
  unfold tableOk at this
  rw [no_table w] at this
  cases this
theorem check_terms {s : Sch} {q : Qn} (p : Pq q) (ht : ∀ a ∈ q.atoms, tableOk s a = true) {i : Nat} (h : i < q.atoms.length) {c : Col} {cs : List Col} {l : List Term} (hc : s.lookup (q.atoms[i]).1 = some (c :: cs)) (hf : termsFit l (c :: cs) = false) :
    checkQ s ⟨q.head, q.atoms.set i ((q.atoms[i]).1, l)⟩ = some (Str.ofString "terms") := by
  unfold checkQ
  rw [not_big (pq_set p i _), if_neg Bool.false_ne_true, if_pos, if_neg]
  · intro hall
    have hm : ((q.atoms[i]).1, l) ∈ q.atoms.set i ((q.atoms[i]).1, l) := List.mem_set h _
    have := List.all_eq_true.mp hall _ hm
    have hcol : colsOf s (q.atoms[i]).1 = c :: cs := by unfold colsOf; rw [hc]; rfl
    unfold atomOk at this
    dsimp only at this
    rw [hcol, hf] at this
    cases this
  · refine List.all_eq_true.mpr fun a ha => ?_
    rcases List.mem_or_eq_of_mem_set ha with ha | rfl
    · exact ht a ha
    · exact ht q.atoms[i] (List.getElem_mem _)
theorem check_head {s : Sch} {q : Qn} (g : GQ s 4 q) : checkQ s ⟨q.head.take 3 ++ [Str.ofString "nowhere"], q.atoms⟩ = some (Str.ofString "head") := by
  obtain ⟨f, ef, kv, v⟩ := kinds_some g.ga
  have h1 := g.l1
  have h2 := g.l2
  have h3 := g.hl
  have p : Pq ⟨q.head.take 3 ++ [Str.ofString "nowhere"], q.atoms⟩ := ⟨h1, h2, by simp; omega⟩
  unfold checkQ
  rw [not_big p, if_neg Bool.false_ne_true, if_pos (List.all_eq_true.mpr fun a ha => gtab (g.ga a ha)), if_pos (List.all_eq_true.mpr fun a ha => gfits (g.ga a ha)), ef]
  dsimp only
  rw [if_neg]
  intro hall
  rw [List.all_map] at hall
  have := List.all_eq_true.mp hall (Str.ofString "nowhere") (by simp)
  obtain ⟨k, hk⟩ := Option.isSome_iff_exists.mp (show (f.lookup (Str.ofString "nowhere")).isSome = true from this)
  exact nowhere_no k (kv _ k hk)
theorem gq_pq {s : Sch} {q : Qn} (g : GQ s 4 q) : Pq q := ⟨g.l1, g.l2, by have := g.hl; omega⟩
theorem total_le : ∀ (as : List Atom) (n : Nat), (∀ a ∈ as, a.2.length ≤ n) → total as ≤ n * as.length
  | [], n, _ => by simp [total]
  | a :: as, n, h => by
    have ih := total_le as n fun b hb => h b (List.mem_cons_of_mem _ hb)
    have h1 := h a List.mem_cons_self
    have e : total (a :: as) = a.2.length + total as := rfl
    rw [e, List.length_cons, Nat.mul_succ]
    omega
theorem gq_of {q : Qn} (h : ∀ a ∈ q.atoms, AOk a ∧ a.2.length ≤ 6) (hl : q.atoms.length ≤ 10) : Gq q := by
  refine ⟨fun a ha => (h a ha).1, ?_⟩
  have := total_le q.atoms 6 fun a ha => (h a ha).2
  omega
theorem bad_tok (b : Bool) : ∀ t ∈ badL b, TOk t := by
  intro t ht
  simp only [badL, List.mem_cons, List.not_mem_nil, or_false] at ht
  rcases ht with rfl | rfl | rfl | rfl | rfl | rfl
  · cases b with
    | true => show (Str.ofString "x").length ≤ 1000; decide +kernel
    | false => trivial
  · trivial
  · show (Str.ofString "").length ≤ 1000; decide +kernel
  · show (Str.ofString "A").length ≤ 1000; decide +kernel
  · show (Str.ofString "a1").length ≤ 1000; decide +kernel
  · trivial
theorem wrong_tok {b : Bool} {ts : List Term} (ht : ∀ t ∈ ts, TOk t) (hl : ts.length ≤ 4) : ∀ l ∈ wrongL b ts, (∀ t ∈ l, TOk t) ∧ l.length ≤ 6 := by
  intro l h
  unfold wrongL at h
  rcases List.mem_append.mp h with h | h
  · simp only [List.mem_cons, List.not_mem_nil, or_false] at h
    rcases h with rfl | rfl
    · refine ⟨fun t h => ?_, by simp; omega⟩
      rcases List.mem_append.mp h with h | h
      · exact ht t h
      · rw [List.mem_singleton.mp h]; trivial
    · exact ⟨fun t h => ht t ((List.dropLast_sublist _).subset h), by simp; omega⟩
  · obtain ⟨t0, h0, rfl⟩ := List.mem_map.mp h
    refine ⟨fun t h => ?_, by simp; omega⟩
    rcases List.mem_cons.mp h with rfl | h
    · exact bad_tok b t h0
    · exact ht t (List.mem_of_mem_tail h)
end K67
set_option Elab.async false
set_option linter.all false
set_option maxRecDepth 100000
set_option maxHeartbeats 4000000
namespace K67
open PySem PySem.Spec PyProof.Rows L2 VH VC
theorem tabs_nd : tabs.Nodup := by decide +kernel
theorem sk_of {s : Sch} (w : WSch s) : Sk s := by
  refine ⟨?_, by have := w.len; omega, fun p hp => ?_⟩
  · obtain ⟨k, hk, e⟩ := w.nm
    rw [e]
    exact tabs_nd.sublist (List.take_sublist _ _)
  · obtain ⟨b, rest, k, e, _⟩ := (w.cs p hp).ex
    exact ⟨_, _, e, rfl⟩
theorem keep_oR {o : O} {c : Str} (h : oR o = .ok (.str c)) : o = .sh (.str c) := by
  unfold oR at h
  cases o with
  | sh d =>
    replace h : Pr.ok d = Pr.ok (.str c) := h
    cases h; rfl
  | lst ds =>
    replace h : Pr.ok (PyData.list ds) = Pr.ok (.str c) := h
    cases h
  | dic kvs =>
    split at h
    · cases h
    · cases h
  | scr ns =>
    split at h
    · cases h
    · cases h
theorem run_of_pr {bs : List Bool} {tot : Nat} {b : En → Rs Fl} {os : List O} {c : Str} (h : pr (fnRun bs tot b os) = .ok (.str c)) : ∃ e, fnRun bs tot b os = .ok (.sh (.str c)) (mask bs e) := by
  unfold fnRun pr at h
  unfold fnRun
  cases hb : b (os.map some ++ List.replicate (tot - os.length) none) with
  | ok fl e =>
    rw [hb] at h
    cases fl with
    | ret o => dsimp only at h ⊢; exact ⟨e, by rw [keep_oR h]⟩
    | nx => dsimp only at h; cases h
    | _ => cases h
  | exc x e => rw [hb] at h; cases h
  | bad => rw [hb] at h; cases h
theorem x_code {s : Sch} (k : Sk s) {q : Qn} (g : Gq q) : ∃ u v, r_code [.sh (scD s), .sh (qD q)] = .ok (.sh (.str (codeS (checkQ s q)))) [u, v] := by
  obtain ⟨e, h⟩ := run_of_pr (p_code k g)
  refine ⟨(mask bs__law_code e)[0]?.join, (mask bs__law_code e)[1]?.join, h.trans ?_⟩
  congr 1
  cases e with
  | nil => rfl
  | cons a e => cases e with
    | nil => rfl
    | cons b e => rfl
def ordL : List Str := [Str.ofString "size", Str.ofString "table", Str.ofString "terms", Str.ofString "head"]
theorem gq_good {s : Sch} (w : WSch s) {q : Qn} (g : GQ s 4 q) : Gq q := gq_of (fun a ha => ⟨gtok (g.ga a ha), by have := (g.ga a ha).len w; omega⟩) (by have := g.l2; omega)
theorem tot_good {s : Sch} (w : WSch s) {q : Qn} (g : GQ s 4 q) : total q.atoms ≤ 100 := by
  have := total_le q.atoms 4 fun a ha => (g.ga a ha).len w
  have := g.l2
  omega
theorem key_of {s : Sch} (w : WSch s) {a : Atom} (g : GAtom s a) : ∃ c cs, s.lookup a.1 = some (c :: cs) ∧ a.2.length = (c :: cs).length ∧ c.null = false := by
  obtain ⟨cs, hc, hl, _⟩ := g.ex
  obtain ⟨b, rest, k, e, _⟩ := (w.cs _ (lookup_in hc)).ex
  dsimp only at e
  subst e
  exact ⟨_, _, hc, hl, rfl⟩
/-- a question's atoms with one put anew -/
theorem gq_set {as : List Atom} {hd hd' : List Str} {i : Nat} {a : Atom} (h : ∀ b ∈ as, AOk b ∧ b.2.length ≤ 6) (hl : as.length ≤ 10) (ha : AOk a ∧ a.2.length ≤ 6) : Gq ⟨hd, as.set i a⟩ :=
  gq_of (fun b hb => by
    rcases List.mem_or_eq_of_mem_set hb with hb | rfl
    · exact h b hb
    · exact ha) (by dsimp only; rw [List.length_set]; exact hl)
def FaR (s : Sch) (q : Qn) (c : Str) (T : Tape) : Prop := ∃ (T' : Tape) (q' : Qn), r_faulty [tapeO T, .sh (scD s), .sh (qD q), .sh (.str c)] = .ok (.sh (qD q')) [some (tapeO T'), none, none, none] ∧ checkQ s q' = some c ∧ Gq q'
/-- good atoms under any short head -/
structure GP (s : Sch) (q : Qn) : Prop where
  pq : Pq q
  ga : ∀ a ∈ q.atoms, GAtom s a
theorem gp_of {s : Sch} {q : Qn} (g : GQ s 4 q) : GP s q := ⟨gq_pq g, g.ga⟩
theorem gpa {s : Sch} (w : WSch s) {q : Qn} (g : GP s q) : ∀ b ∈ q.atoms, AOk b ∧ b.2.length ≤ 6 := fun b hb => ⟨gtok (g.ga b hb), by have := (g.ga b hb).len w; omega⟩
theorem x_table {s : Sch} (w : WSch s) {q : Qn} (p : Pq q) (h : ∀ b ∈ q.atoms, AOk b ∧ b.2.length ≤ 6) (T : Tape) : FaR s q (Str.ofString "table") T := by
  obtain ⟨T', i, hi, e⟩ := fa_table s q p T
  exact ⟨T', _, e, check_table w p hi _, gq_set (hd' := []) h (by have := p.l2; omega) ⟨(h q.atoms[i] (List.getElem_mem _)).1, (h q.atoms[i] (List.getElem_mem _)).2⟩⟩
theorem xt_terms {s : Sch} (w : WSch s) {q : Qn} (g : GP s q) (T : Tape) : ∃ (T' : Tape) (q' : Qn), r_faulty [tapeO T, .sh (scD s), .sh (qD q), .sh (.str (Str.ofString "terms"))] = .ok (.sh (qD q')) [some (tapeO T'), none, none, none] ∧ checkQ s q' = some (Str.ofString "terms") ∧ Pq q' ∧ ∀ b ∈ q'.atoms, AOk b ∧ b.2.length ≤ 6 := by
  obtain ⟨T', i, hi, c, cs, l, hc, hl, e⟩ := fa_terms (s := s) q g.pq T fun a ha => by
    obtain ⟨c, cs, h1, h2, h3⟩ := key_of w (g.ga a ha)
    exact ⟨c, cs, h1, by have := (g.ga a ha).len w; omega⟩
  have ga := g.ga q.atoms[i] (List.getElem_mem _)
  obtain ⟨c2, cs2, h1, h2, h3⟩ := key_of w ga
  rw [hc] at h1
  cases h1
  have h4 := ga.len w
  have hw := wrong_tok (gtok ga) h4 l hl
  refine ⟨T', _, e, check_terms g.pq (fun a ha => gtab (g.ga a ha)) hi hc (wrong_fits h2 h3 l hl), pq_set g.pq _ _, fun b hb => ?_⟩
  rcases List.mem_or_eq_of_mem_set hb with hb | rfl
  · exact gpa w g b hb
  · exact hw
theorem x_terms {s : Sch} (w : WSch s) {q : Qn} (g : GP s q) (T : Tape) : FaR s q (Str.ofString "terms") T := by
  obtain ⟨T', q', e, hc, hp, ha⟩ := xt_terms w g T
  exact ⟨T', q', e, hc, gq_of ha (by have := hp.l2; omega)⟩
theorem xt_head {s : Sch} (w : WSch s) {q : Qn} (g : GQ s 4 q) (T : Tape) : ∃ (T' : Tape) (q' : Qn), r_faulty [tapeO T, .sh (scD s), .sh (qD q), .sh (.str (Str.ofString "head"))] = .ok (.sh (qD q')) [some (tapeO T'), none, none, none] ∧ checkQ s q' = some (Str.ofString "head") ∧ GP s q' := by
  obtain ⟨T', e⟩ := fa_head s q (gq_pq g) T
  exact ⟨T', _, e, check_head g, ⟨g.l1, g.l2, by have := g.hl; simp; omega⟩, g.ga⟩
theorem x_head {s : Sch} (w : WSch s) {q : Qn} (g : GQ s 4 q) (T : Tape) : FaR s q (Str.ofString "head") T := by
  obtain ⟨T', q', e, hc, hp⟩ := xt_head w g T
  exact ⟨T', q', e, hc, gq_of (gpa w hp) (by have := hp.pq.l2; omega)⟩
theorem str_ok (b : Bool) : ∀ x ∈ varsOf b, PyData.strOk x = true := by cases b <;> decide +kernel
theorem x_size {s : Sch} (w : WSch s) {q : Qn} (g : GQ s 4 q) (T : Tape) : FaR s q (Str.ofString "size") T := by
  obtain ⟨f, _, kv, v⟩ := kinds_some g.ga
  obtain ⟨T', q', e, hz, hg⟩ := fa_size s q (gq_pq g) (fun x hx => by
    obtain ⟨a, ha, hv⟩ := g.hv x hx
    obtain ⟨k, hk⟩ := Option.isSome_iff_exists.mp (v a ha x hv)
    exact str_ok k x (kv _ _ hk)) (gq_good w g) (tot_good w g) T
  exact ⟨T', q', e, check_size hz, hg⟩
theorem x_one {s : Sch} (w : WSch s) {q : Qn} (g : GQ s 4 q) (T : Tape) {c : Str} (hc : c ∈ ordL) : FaR s q c T := by
  simp only [ordL, List.mem_cons, List.not_mem_nil, or_false] at hc
  rcases hc with rfl | rfl | rfl | rfl
  · exact x_size w g T
  · exact x_table w (gq_pq g) (gpa w (gp_of g)) T
  · exact x_terms w (gp_of g) T
  · exact x_head w g T
theorem c_ix (i : Nat) (h : i < 4) : idxD (.list [.str (Str.ofString "size"), .str (Str.ofString "table"), .str (Str.ofString "terms"), .str (Str.ofString "head")]) (.int i) = some (.str (ordL[i]'h)) := ixl_map (fun c : Str => PyData.str c) (l := ordL) h
/-- the two faults, the later one first -/
theorem x_two {s : Sch} (w : WSch s) {q : Qn} (g : GQ s 4 q) (T : Tape) {i j : Nat} (hij : i < j) (hj : j < 4) (h0 : i ≠ 0) : ∃ (T1 T2 : Tape) (q1 q2 : Qn),
    r_faulty [tapeO T, .sh (scD s), .sh (qD q), .sh (.str (ordL[j]'hj))] = .ok (.sh (qD q1)) [some (tapeO T1), none, none, none] ∧
    r_faulty [tapeO T1, .sh (scD s), .sh (qD q1), .sh (.str (ordL[i]'(by show i < 4; omega)))] = .ok (.sh (qD q2)) [some (tapeO T2), none, none, none] ∧ checkQ s q2 = some (ordL[i]'(by show i < 4; omega)) ∧ Gq q2 := by
  rcases (show (i = 1 ∧ j = 2) ∨ (i = 1 ∧ j = 3) ∨ (i = 2 ∧ j = 3) by omega) with ⟨rfl, rfl⟩ | ⟨rfl, rfl⟩ | ⟨rfl, rfl⟩
  · obtain ⟨T1, q1, e1, _, hp, ha⟩ := xt_terms w (gp_of g) T
    obtain ⟨T2, q2, e2, hc, hg⟩ := x_table w hp ha T1
    exact ⟨T1, T2, q1, q2, e1, e2, hc, hg⟩
  · obtain ⟨T1, q1, e1, _, hp⟩ := xt_head w g T
    obtain ⟨T2, q2, e2, hc, hg⟩ := x_table w hp.pq (gpa w hp) T1
    exact ⟨T1, T2, q1, q2, e1, e2, hc, hg⟩
  · obtain ⟨T1, q1, e1, _, hp⟩ := xt_head w g T
    obtain ⟨T2, q2, e2, hc, hg⟩ := x_terms w hp T1
    exact ⟨T1, T2, q1, q2, e1, e2, hc, hg⟩
/-! the last question -/
def pairS : Sch := [(Str.ofString "n", [⟨Str.ofString "id", true, false⟩, ⟨Str.ofString "t", false, true⟩])]
def mixQ (n : Nat) : Qn := ⟨[Str.ofString "nowhere"].take n, [(Str.ofString "n", [.var (Str.ofString "a"), .var (Str.ofString "a")])]⟩
theorem mix_code {n : Nat} (h : n < 2) : checkQ pairS (mixQ n) = some (Str.ofString "kind") := by
  rcases (show n = 0 ∨ n = 1 by omega) with rfl | rfl <;> decide +kernel
theorem mix_gq (n : Nat) : Gq (mixQ n) := gq_of (fun a ha => by
  rw [List.mem_singleton.mp ha]
  refine ⟨fun t ht => ?_, by decide⟩
  have : t = .var (Str.ofString "a") := by simpa using ht
  rw [this]
  show (Str.ofString "a").length ≤ 1000
  decide +kernel) (show 1 ≤ 10 by omega)
theorem pair_sk : Sk pairS := ⟨by decide +kernel, by decide, fun p hp => by rw [List.mem_singleton.mp hp]; exact ⟨_, _, rfl, rfl⟩⟩
end K67
set_option Elab.async false
set_option linter.all false
set_option maxRecDepth 100000
set_option maxHeartbeats 4000000
namespace K67
open PySem PySem.Spec PyProof.Rows L2 VH VC
def r_law : List O → Rs O := fnRun bs_law 10 (b_law r__law_tape r__law_plain_schema r__law_question r_code r__law_take r_faulty)
theorem nin_two (c d : Str) : ninOp (.str c) (.tuple [.str c, .str d]) = some (.bool false) := by
  unfold ninOp inB
  simp [flatD, eqF]
theorem ord_size {i : Nat} (h : i < 4) : ((ordL[i]'h) == Str.ofString "size") = decide (i = 0) := by
  rcases (show i = 0 ∨ i = 1 ∨ i = 2 ∨ i = 3 by omega) with rfl | rfl | rfl | rfl <;> (revert h; decide +kernel)
def mixD (n : Nat) : D := .tuple [.list ([PyData.str (Str.ofString "nowhere")].take n), .tuple [.tuple [.str (Str.ofString "n"), .tuple [.tuple [.str (Str.ofString "var"), .str (Str.ofString "a")], .tuple [.str (Str.ofString "var"), .str (Str.ofString "a")]]]]]
theorem qD_mix (n : Nat) : qD (mixQ n) = .tuple [.tuple ([PyData.str (Str.ofString "nowhere")].take n), .tuple [.tuple [.str (Str.ofString "n"), .tuple [.tuple [.str (Str.ofString "var"), .str (Str.ofString "a")], .tuple [.str (Str.ofString "var"), .str (Str.ofString "a")]]]]] := by
  unfold qD mixQ
  rw [← List.map_take.symm]
  rfl
theorem scD_pair : scD pairS = .dict [(.str (Str.ofString "n"), tbD [⟨Str.ofString "id", true, false⟩, ⟨Str.ofString "t", false, true⟩])] := rfl
theorem dic_one (n : Str) (X : D) : dicD [(.str n, X)] = some (.dict [(.str n, X)]) := by rfl
theorem tupOf_list (xs : List D) : tupOfD [.list xs] = some (.tuple xs) := rfl
def ORD : D := .list [.str (Str.ofString "size"), .str (Str.ofString "table"), .str (Str.ofString "terms"), .str (Str.ofString "head")]
theorem lst_ord : lstD [.str (Str.ofString "size"), .str (Str.ofString "table"), .str (Str.ofString "terms"), .str (Str.ofString "head")] = some ORD := rfl
theorem law_ok (ns : List Int) : r_law [.scr ns] = .ok (.sh (.bool true)) [none] := by
  obtain ⟨T, e1⟩ := tape_ok ns
  obtain ⟨s, T1, e2, w⟩ := schema_ex T
  obtain ⟨q, T2, e3, g⟩ := question_ex w T1 (m := 4) (by decide) (by decide)
  have k := sk_of w
  have c0 := p_code k (gq_good w g)
  rw [check_fine g] at c0
  replace c0 : pr (r_code [.sh (scD s), .sh (qD q)]) = .ok (.str (Str.ofString "fine")) := c0
  replace e3 : r__law_question [tapeO T1, .sh (scD s), .sh (.int 4)] = .ok (.sh (qD q)) [some (tapeO T2), none, none] := e3
  obtain ⟨i, T3, e4, hi⟩ := take_ex T2 (m := 4) (by decide) (by decide)
  obtain ⟨j, T4, e5, hj⟩ := take_ex T3 (m := 4) (by decide) (by decide)
  have hi' : i < 4 := by omega
  have hj' : j < 4 := by omega
  have oi : idxD ORD (.int i) = some (.str (ordL[i]'hi')) := c_ix i hi'
  have oj : idxD ORD (.int j) = some (.str (ordL[j]'hj')) := c_ix j hj'
  obtain ⟨T5, q5, e6, c1, g5⟩ := x_one w g T4 (c := ordL[i]'hi') (List.getElem_mem _)
  obtain ⟨a5, b5, e7⟩ := x_code k g5
  rw [c1] at e7
  replace e7 : r_code [.sh (scD s), .sh (qD q5)] = .ok (.sh (.str (ordL[i]'hi'))) [a5, b5] := e7
  have hos := ord_size hi'
  have last : ∀ (T6 : Tape) (v7 : Option O), ∃ T7 v8 v9, (sSeq (sSet 8 (eSh (eP (pDic [(pC (.str (Str.ofString "n")), pDic [(pC (.str (Str.ofString "columns")), pAll lstD (pCons (pAll tupD (pCons (pC (.str (Str.ofString "id"))) (pCons (pC (.str (Str.ofString "int"))) (pCons (pC (.bool false)) (pNil))))) (pCons (pAll tupD (pCons (pC (.str (Str.ofString "t"))) (pCons (pC (.str (Str.ofString "text"))) (pCons (pC (.bool true)) (pNil))))) (pNil)))), (pC (.str (Str.ofString "checks")), pAll lstD (pNil)), (pC (.str (Str.ofString "uniques")), pAll lstD (pNil)), (pC (.str (Str.ofString "references")), pAll lstD (pNil))])])))) (sSeq (sSet 9 (eSh (eAll tupD (eCons (eSl (eP (pAll lstD (pCons (pC (.str (Str.ofString "nowhere"))) (pNil)))) (ret none) (ePart (eFz (eCallU r__law_take (aBor 1 (aVal (eP (pC (.int 2))) (aNil))))))) (eCons (eP (pAll tupD (pCons (pAll tupD (pCons (pC (.str (Str.ofString "n"))) (pCons (pAll tupD (pCons (pAll tupD (pCons (pC (.str (Str.ofString "var"))) (pCons (pC (.str (Str.ofString "a"))) (pNil)))) (pCons (pAll tupD (pCons (pC (.str (Str.ofString "var"))) (pCons (pC (.str (Str.ofString "a"))) (pNil)))) (pNil)))) (pNil)))) (pNil)))) (eNil)))))) (sRet (eSh (eP (pBin eqD (pCall r_code (pCons (pVar 8) (pCons (pAll tupD (pCons (pAll tupOfD (pCons (pBin idxD (pVar 9) (pC (.int 0))) (pNil))) (pCons (pBin idxD (pVar 9) (pC (.int 1))) (pNil)))) (pNil)))) (pC (.str (Str.ofString "kind"))))))))) [some (.scr ns), some (tapeO T6), some (.sh (scD s)), some (.sh (qD q)), some (.sh ORD), some (.sh (.int i)), some (.sh (.int j)), v7, none, none] =
      .ok (.ret (.sh (.bool true))) [some (.scr ns), some (tapeO T7), some (.sh (scD s)), some (.sh (qD q)), some (.sh ORD), some (.sh (.int i)), some (.sh (.int j)), v7, v8, v9] := by
    intro T6 v7
    obtain ⟨n, T7, e8, hn⟩ := take_ex T6 (m := 2) (by decide) (by decide)
    have cm := p_code pair_sk (mix_gq n)
    rw [mix_code (by omega), qD_mix] at cm
    replace cm : pr (r_code [.sh (scD pairS), .sh (.tuple [.tuple ([PyData.str (Str.ofString "nowhere")].take n), .tuple [.tuple [.str (Str.ofString "n"), .tuple [.tuple [.str (Str.ofString "var"), .str (Str.ofString "a")], .tuple [.str (Str.ofString "var"), .str (Str.ofString "a")]]]]])]) = .ok (.str (Str.ofString "kind")) := cm
    have hs := sl_take (k := n) [.str (Str.ofString "nowhere")]
    have ht := tupOf_list ([PyData.str (Str.ofString "nowhere")].take n)
    generalize [PyData.str (Str.ofString "nowhere")].take n = NW at *
    refine ⟨T7, some (.sh (scD pairS)), some (.sh (.tuple [.list NW, .tuple [.tuple [.str (Str.ofString "n"), .tuple [.tuple [.str (Str.ofString "var"), .str (Str.ofString "a")], .tuple [.str (Str.ofString "var"), .str (Str.ofString "a")]]]]])), ?_⟩
    rw [seq_ok (e := [some (.scr ns), some (tapeO T6), some (.sh (scD s)), some (.sh (qD q)), some (.sh ORD), some (.sh (.int i)), some (.sh (.int j)), v7, some (.sh (scD pairS)), none])]
    rotate_left
    · have hd := dic_tb (.list [.tuple [.str (Str.ofString "id"), .str (Str.ofString "int"), .bool false], .tuple [.str (Str.ofString "t"), .str (Str.ofString "text"), .bool true]])
      have h0 : lstD [] = some (.list []) := rfl
      generalize v7 = v7 at *
      simp only [pr_run, out, oR, sSeq, sIf, eP, ePk, ePkT, eFr, frzS, frz1, shE, VH.shS_sh, VH.shS_lst, VH.shS_dic, VH.shS_scr, VH.shS_none, pVar, pC, pBin, pChain, pUn, pMap, pB, pTru, pNN, pNNo, pAnd, pOr, pNot, pAndV, pOrV, pNotV, pIf, pNil, pCons, pAll, pPart, pPart0, pSl, pM1, pSeq, pSeq2, pCall_pr, pGet2, pGet3, isDic, Pr.bind, Pr.lift, eAnd, eOr, eNot, eB, bnd, eBin, eUn, eSub, eC, VH.ret, lift, eVar, eSh, eFz, sSet, sRet, sPut, sAsg, sPar, sPar3, sFz, tgN, tgT, tgSeq, eAll, eCons, eNil, eIf, sDo, sApp, sExt, sNext, oLst, oAdd, oIf, oList, oDic0, eMov, eSl, ePart, eCallU, aNil, aVal, aBor, takeA, putA, sRaise, List.getElem?_cons_zero, List.getElem?_cons_succ, List.set_cons_zero, List.set_cons_succ, Nat.reduceSub, Nat.reduceAdd, Nat.reduceLT, Nat.reduceLeDiff, Option.bind, Option.map, O.fzb, O.fzbK, fz, blD, VH.isN_none, VH.isN_int, VH.isN_str, VH.isN_bool, VH.isN_tup, VH.isN_lst, VH.isN_dic, vi_int, vi_bool, vi_str, vi_tuple, vi_list, vi_dict, truD, flR, flRA, List.map_cons, List.map_nil, List.replicate, List.cons_append, List.nil_append, List.length_cons, List.length_nil, if_true, if_false, ite_true, ite_false, Bool.false_eq_true, decide_true, decide_false, beq_self_eq_true, Bool.not_true, Bool.not_false, and_self, and_true, true_and, and_false, false_and, Bool.or_true, Bool.true_or, Bool.or_false, Bool.false_or, Bool.and_true, Bool.and_false, Bool.true_and, Bool.false_and, ne_eq, not_false_eq_true, not_true_eq_false, reduceCtorEq, VH.eq_str, VH.ne_str, VH.eq_int, VH.ne_int, VH.add_int, VH.le_int, VH.lt_int, VH.gt_int, VH.ge_int, VH.ixt0, VH.ixt1, VH.ixt2, VH.ixl0, VH.ixl1, VH.tup0, VH.tup1, VH.tup2, VH.tup3, VH.lst0, VH.lst1, VH.lst2, VH.lst3, VH.len_list, VH.len_tuple, VH.items_list, VH.items_tuple, pDic, pPairs, hd, h0, dic_one]
      rfl
    rw [seq_ok (e := [some (.scr ns), some (tapeO T7), some (.sh (scD s)), some (.sh (qD q)), some (.sh ORD), some (.sh (.int i)), some (.sh (.int j)), v7, some (.sh (scD pairS)), some (.sh (.tuple [.list NW, .tuple [.tuple [.str (Str.ofString "n"), .tuple [.tuple [.str (Str.ofString "var"), .str (Str.ofString "a")], .tuple [.str (Str.ofString "var"), .str (Str.ofString "a")]]]]]))])]
    rotate_left
    · simp only [pr_run, out, oR, sSeq, sIf, eP, ePk, ePkT, eFr, frzS, frz1, shE, VH.shS_sh, VH.shS_lst, VH.shS_dic, VH.shS_scr, VH.shS_none, pVar, pC, pBin, pChain, pUn, pMap, pB, pTru, pNN, pNNo, pAnd, pOr, pNot, pAndV, pOrV, pNotV, pIf, pNil, pCons, pAll, pPart, pPart0, pSl, pM1, pSeq, pSeq2, pCall_pr, pGet2, pGet3, isDic, Pr.bind, Pr.lift, eAnd, eOr, eNot, eB, bnd, eBin, eUn, eSub, eC, VH.ret, lift, eVar, eSh, eFz, sSet, sRet, sPut, sAsg, sPar, sPar3, sFz, tgN, tgT, tgSeq, eAll, eCons, eNil, eIf, sDo, sApp, sExt, sNext, oLst, oAdd, oIf, oList, oDic0, eMov, eSl, ePart, eCallU, aNil, aVal, aBor, takeA, putA, sRaise, List.getElem?_cons_zero, List.getElem?_cons_succ, List.set_cons_zero, List.set_cons_succ, Nat.reduceSub, Nat.reduceAdd, Nat.reduceLT, Nat.reduceLeDiff, Option.bind, Option.map, O.fzb, O.fzbK, fz, blD, VH.isN_none, VH.isN_int, VH.isN_str, VH.isN_bool, VH.isN_tup, VH.isN_lst, VH.isN_dic, vi_int, vi_bool, vi_str, vi_tuple, vi_list, vi_dict, truD, flR, flRA, List.map_cons, List.map_nil, List.replicate, List.cons_append, List.nil_append, List.length_cons, List.length_nil, if_true, if_false, ite_true, ite_false, Bool.false_eq_true, decide_true, decide_false, beq_self_eq_true, Bool.not_true, Bool.not_false, and_self, and_true, true_and, and_false, false_and, Bool.or_true, Bool.true_or, Bool.or_false, Bool.false_or, Bool.and_true, Bool.and_false, Bool.true_and, Bool.false_and, ne_eq, not_false_eq_true, not_true_eq_false, reduceCtorEq, VH.eq_str, VH.ne_str, VH.eq_int, VH.ne_int, VH.add_int, VH.le_int, VH.lt_int, VH.gt_int, VH.ge_int, VH.ixt0, VH.ixt1, VH.ixt2, VH.ixl0, VH.ixl1, VH.tup0, VH.tup1, VH.tup2, VH.tup3, VH.lst0, VH.lst1, VH.lst2, VH.lst3, VH.len_list, VH.len_tuple, VH.items_list, VH.items_tuple, e8, hs, ixI]
    simp only [pr_run, out, oR, sSeq, sIf, eP, ePk, ePkT, eFr, frzS, frz1, shE, VH.shS_sh, VH.shS_lst, VH.shS_dic, VH.shS_scr, VH.shS_none, pVar, pC, pBin, pChain, pUn, pMap, pB, pTru, pNN, pNNo, pAnd, pOr, pNot, pAndV, pOrV, pNotV, pIf, pNil, pCons, pAll, pPart, pPart0, pSl, pM1, pSeq, pSeq2, pCall_pr, pGet2, pGet3, isDic, Pr.bind, Pr.lift, eAnd, eOr, eNot, eB, bnd, eBin, eUn, eSub, eC, VH.ret, lift, eVar, eSh, eFz, sSet, sRet, sPut, sAsg, sPar, sPar3, sFz, tgN, tgT, tgSeq, eAll, eCons, eNil, eIf, sDo, sApp, sExt, sNext, oLst, oAdd, oIf, oList, oDic0, eMov, eSl, ePart, eCallU, aNil, aVal, aBor, takeA, putA, sRaise, List.getElem?_cons_zero, List.getElem?_cons_succ, List.set_cons_zero, List.set_cons_succ, Nat.reduceSub, Nat.reduceAdd, Nat.reduceLT, Nat.reduceLeDiff, Option.bind, Option.map, O.fzb, O.fzbK, fz, blD, VH.isN_none, VH.isN_int, VH.isN_str, VH.isN_bool, VH.isN_tup, VH.isN_lst, VH.isN_dic, vi_int, vi_bool, vi_str, vi_tuple, vi_list, vi_dict, truD, flR, flRA, List.map_cons, List.map_nil, List.replicate, List.cons_append, List.nil_append, List.length_cons, List.length_nil, if_true, if_false, ite_true, ite_false, Bool.false_eq_true, decide_true, decide_false, beq_self_eq_true, Bool.not_true, Bool.not_false, and_self, and_true, true_and, and_false, false_and, Bool.or_true, Bool.true_or, Bool.or_false, Bool.false_or, Bool.and_true, Bool.and_false, Bool.true_and, Bool.false_and, ne_eq, not_false_eq_true, not_true_eq_false, reduceCtorEq, VH.eq_str, VH.ne_str, VH.eq_int, VH.ne_int, VH.add_int, VH.le_int, VH.lt_int, VH.gt_int, VH.ge_int, VH.ixt0, VH.ixt1, VH.ixt2, VH.ixl0, VH.ixl1, VH.tup0, VH.tup1, VH.tup2, VH.tup3, VH.lst0, VH.lst1, VH.lst2, VH.lst3, VH.len_list, VH.len_tuple, VH.items_list, VH.items_tuple, ht, cm]
  unfold r_law fnRun b_law
  simp only [List.map_cons, List.map_nil, List.length_cons, List.length_nil, Nat.reduceSub, Nat.reduceAdd, List.replicate, List.cons_append, List.nil_append]
  rw [seq_ok (e := [some (.scr ns), some (tapeO T), none, none, none, none, none, none, none, none])]
  rotate_left
  · simp only [pr_run, out, oR, sSeq, sIf, eP, ePk, ePkT, eFr, frzS, frz1, shE, VH.shS_sh, VH.shS_lst, VH.shS_dic, VH.shS_scr, VH.shS_none, pVar, pC, pBin, pChain, pUn, pMap, pB, pTru, pNN, pNNo, pAnd, pOr, pNot, pAndV, pOrV, pNotV, pIf, pNil, pCons, pAll, pPart, pPart0, pSl, pM1, pSeq, pSeq2, pCall_pr, pGet2, pGet3, isDic, Pr.bind, Pr.lift, eAnd, eOr, eNot, eB, bnd, eBin, eUn, eSub, eC, VH.ret, lift, eVar, eSh, eFz, sSet, sRet, sPut, sAsg, sPar, sPar3, sFz, tgN, tgT, tgSeq, eAll, eCons, eNil, eIf, sDo, sApp, sExt, sNext, oLst, oAdd, oIf, oList, oDic0, eMov, eSl, ePart, eCallU, aNil, aVal, aBor, takeA, putA, sRaise, List.getElem?_cons_zero, List.getElem?_cons_succ, List.set_cons_zero, List.set_cons_succ, Nat.reduceSub, Nat.reduceAdd, Nat.reduceLT, Nat.reduceLeDiff, Option.bind, Option.map, O.fzb, O.fzbK, fz, blD, VH.isN_none, VH.isN_int, VH.isN_str, VH.isN_bool, VH.isN_tup, VH.isN_lst, VH.isN_dic, vi_int, vi_bool, vi_str, vi_tuple, vi_list, vi_dict, truD, flR, flRA, List.map_cons, List.map_nil, List.replicate, List.cons_append, List.nil_append, List.length_cons, List.length_nil, if_true, if_false, ite_true, ite_false, Bool.false_eq_true, decide_true, decide_false, beq_self_eq_true, Bool.not_true, Bool.not_false, and_self, and_true, true_and, and_false, false_and, Bool.or_true, Bool.true_or, Bool.or_false, Bool.false_or, Bool.and_true, Bool.and_false, Bool.true_and, Bool.false_and, ne_eq, not_false_eq_true, not_true_eq_false, reduceCtorEq, VH.eq_str, VH.ne_str, VH.eq_int, VH.ne_int, VH.add_int, VH.le_int, VH.lt_int, VH.gt_int, VH.ge_int, VH.ixt0, VH.ixt1, VH.ixt2, VH.ixl0, VH.ixl1, VH.tup0, VH.tup1, VH.tup2, VH.tup3, VH.lst0, VH.lst1, VH.lst2, VH.lst3, VH.len_list, VH.len_tuple, VH.items_list, VH.items_tuple, e1]
  rw [seq_ok (e := [some (.scr ns), some (tapeO T1), some (.sh (scD s)), none, none, none, none, none, none, none])]
  rotate_left
  · simp only [pr_run, out, oR, sSeq, sIf, eP, ePk, ePkT, eFr, frzS, frz1, shE, VH.shS_sh, VH.shS_lst, VH.shS_dic, VH.shS_scr, VH.shS_none, pVar, pC, pBin, pChain, pUn, pMap, pB, pTru, pNN, pNNo, pAnd, pOr, pNot, pAndV, pOrV, pNotV, pIf, pNil, pCons, pAll, pPart, pPart0, pSl, pM1, pSeq, pSeq2, pCall_pr, pGet2, pGet3, isDic, Pr.bind, Pr.lift, eAnd, eOr, eNot, eB, bnd, eBin, eUn, eSub, eC, VH.ret, lift, eVar, eSh, eFz, sSet, sRet, sPut, sAsg, sPar, sPar3, sFz, tgN, tgT, tgSeq, eAll, eCons, eNil, eIf, sDo, sApp, sExt, sNext, oLst, oAdd, oIf, oList, oDic0, eMov, eSl, ePart, eCallU, aNil, aVal, aBor, takeA, putA, sRaise, List.getElem?_cons_zero, List.getElem?_cons_succ, List.set_cons_zero, List.set_cons_succ, Nat.reduceSub, Nat.reduceAdd, Nat.reduceLT, Nat.reduceLeDiff, Option.bind, Option.map, O.fzb, O.fzbK, fz, blD, VH.isN_none, VH.isN_int, VH.isN_str, VH.isN_bool, VH.isN_tup, VH.isN_lst, VH.isN_dic, vi_int, vi_bool, vi_str, vi_tuple, vi_list, vi_dict, truD, flR, flRA, List.map_cons, List.map_nil, List.replicate, List.cons_append, List.nil_append, List.length_cons, List.length_nil, if_true, if_false, ite_true, ite_false, Bool.false_eq_true, decide_true, decide_false, beq_self_eq_true, Bool.not_true, Bool.not_false, and_self, and_true, true_and, and_false, false_and, Bool.or_true, Bool.true_or, Bool.or_false, Bool.false_or, Bool.and_true, Bool.and_false, Bool.true_and, Bool.false_and, ne_eq, not_false_eq_true, not_true_eq_false, reduceCtorEq, VH.eq_str, VH.ne_str, VH.eq_int, VH.ne_int, VH.add_int, VH.le_int, VH.lt_int, VH.gt_int, VH.ge_int, VH.ixt0, VH.ixt1, VH.ixt2, VH.ixl0, VH.ixl1, VH.tup0, VH.tup1, VH.tup2, VH.tup3, VH.lst0, VH.lst1, VH.lst2, VH.lst3, VH.len_list, VH.len_tuple, VH.items_list, VH.items_tuple, e2]
  rw [seq_ok (e := [some (.scr ns), some (tapeO T2), some (.sh (scD s)), some (.sh (qD q)), none, none, none, none, none, none])]
  rotate_left
  · simp only [pr_run, out, oR, sSeq, sIf, eP, ePk, ePkT, eFr, frzS, frz1, shE, VH.shS_sh, VH.shS_lst, VH.shS_dic, VH.shS_scr, VH.shS_none, pVar, pC, pBin, pChain, pUn, pMap, pB, pTru, pNN, pNNo, pAnd, pOr, pNot, pAndV, pOrV, pNotV, pIf, pNil, pCons, pAll, pPart, pPart0, pSl, pM1, pSeq, pSeq2, pCall_pr, pGet2, pGet3, isDic, Pr.bind, Pr.lift, eAnd, eOr, eNot, eB, bnd, eBin, eUn, eSub, eC, VH.ret, lift, eVar, eSh, eFz, sSet, sRet, sPut, sAsg, sPar, sPar3, sFz, tgN, tgT, tgSeq, eAll, eCons, eNil, eIf, sDo, sApp, sExt, sNext, oLst, oAdd, oIf, oList, oDic0, eMov, eSl, ePart, eCallU, aNil, aVal, aBor, takeA, putA, sRaise, List.getElem?_cons_zero, List.getElem?_cons_succ, List.set_cons_zero, List.set_cons_succ, Nat.reduceSub, Nat.reduceAdd, Nat.reduceLT, Nat.reduceLeDiff, Option.bind, Option.map, O.fzb, O.fzbK, fz, blD, VH.isN_none, VH.isN_int, VH.isN_str, VH.isN_bool, VH.isN_tup, VH.isN_lst, VH.isN_dic, vi_int, vi_bool, vi_str, vi_tuple, vi_list, vi_dict, truD, flR, flRA, List.map_cons, List.map_nil, List.replicate, List.cons_append, List.nil_append, List.length_cons, List.length_nil, if_true, if_false, ite_true, ite_false, Bool.false_eq_true, decide_true, decide_false, beq_self_eq_true, Bool.not_true, Bool.not_false, and_self, and_true, true_and, and_false, false_and, Bool.or_true, Bool.true_or, Bool.or_false, Bool.false_or, Bool.and_true, Bool.and_false, Bool.true_and, Bool.false_and, ne_eq, not_false_eq_true, not_true_eq_false, reduceCtorEq, VH.eq_str, VH.ne_str, VH.eq_int, VH.ne_int, VH.add_int, VH.le_int, VH.lt_int, VH.gt_int, VH.ge_int, VH.ixt0, VH.ixt1, VH.ixt2, VH.ixl0, VH.ixl1, VH.tup0, VH.tup1, VH.tup2, VH.tup3, VH.lst0, VH.lst1, VH.lst2, VH.lst3, VH.len_list, VH.len_tuple, VH.items_list, VH.items_tuple, e3]
  rw [seq_ok (e := [some (.scr ns), some (tapeO T2), some (.sh (scD s)), some (.sh (qD q)), none, none, none, none, none, none])]
  rotate_left
  · simp only [pr_run, out, oR, sSeq, sIf, eP, ePk, ePkT, eFr, frzS, frz1, shE, VH.shS_sh, VH.shS_lst, VH.shS_dic, VH.shS_scr, VH.shS_none, pVar, pC, pBin, pChain, pUn, pMap, pB, pTru, pNN, pNNo, pAnd, pOr, pNot, pAndV, pOrV, pNotV, pIf, pNil, pCons, pAll, pPart, pPart0, pSl, pM1, pSeq, pSeq2, pCall_pr, pGet2, pGet3, isDic, Pr.bind, Pr.lift, eAnd, eOr, eNot, eB, bnd, eBin, eUn, eSub, eC, VH.ret, lift, eVar, eSh, eFz, sSet, sRet, sPut, sAsg, sPar, sPar3, sFz, tgN, tgT, tgSeq, eAll, eCons, eNil, eIf, sDo, sApp, sExt, sNext, oLst, oAdd, oIf, oList, oDic0, eMov, eSl, ePart, eCallU, aNil, aVal, aBor, takeA, putA, sRaise, List.getElem?_cons_zero, List.getElem?_cons_succ, List.set_cons_zero, List.set_cons_succ, Nat.reduceSub, Nat.reduceAdd, Nat.reduceLT, Nat.reduceLeDiff, Option.bind, Option.map, O.fzb, O.fzbK, fz, blD, VH.isN_none, VH.isN_int, VH.isN_str, VH.isN_bool, VH.isN_tup, VH.isN_lst, VH.isN_dic, vi_int, vi_bool, vi_str, vi_tuple, vi_list, vi_dict, truD, flR, flRA, List.map_cons, List.map_nil, List.replicate, List.cons_append, List.nil_append, List.length_cons, List.length_nil, if_true, if_false, ite_true, ite_false, Bool.false_eq_true, decide_true, decide_false, beq_self_eq_true, Bool.not_true, Bool.not_false, and_self, and_true, true_and, and_false, false_and, Bool.or_true, Bool.true_or, Bool.or_false, Bool.false_or, Bool.and_true, Bool.and_false, Bool.true_and, Bool.false_and, ne_eq, not_false_eq_true, not_true_eq_false, reduceCtorEq, VH.eq_str, VH.ne_str, VH.eq_int, VH.ne_int, VH.add_int, VH.le_int, VH.lt_int, VH.gt_int, VH.ge_int, VH.ixt0, VH.ixt1, VH.ixt2, VH.ixl0, VH.ixl1, VH.tup0, VH.tup1, VH.tup2, VH.tup3, VH.lst0, VH.lst1, VH.lst2, VH.lst3, VH.len_list, VH.len_tuple, VH.items_list, VH.items_tuple, c0]
  rw [seq_ok (e := [some (.scr ns), some (tapeO T2), some (.sh (scD s)), some (.sh (qD q)), some (.sh ORD), none, none, none, none, none])]
  rotate_left
  · simp only [pr_run, out, oR, sSeq, sIf, eP, ePk, ePkT, eFr, frzS, frz1, shE, VH.shS_sh, VH.shS_lst, VH.shS_dic, VH.shS_scr, VH.shS_none, pVar, pC, pBin, pChain, pUn, pMap, pB, pTru, pNN, pNNo, pAnd, pOr, pNot, pAndV, pOrV, pNotV, pIf, pNil, pCons, pAll, pPart, pPart0, pSl, pM1, pSeq, pSeq2, pCall_pr, pGet2, pGet3, isDic, Pr.bind, Pr.lift, eAnd, eOr, eNot, eB, bnd, eBin, eUn, eSub, eC, VH.ret, lift, eVar, eSh, eFz, sSet, sRet, sPut, sAsg, sPar, sPar3, sFz, tgN, tgT, tgSeq, eAll, eCons, eNil, eIf, sDo, sApp, sExt, sNext, oLst, oAdd, oIf, oList, oDic0, eMov, eSl, ePart, eCallU, aNil, aVal, aBor, takeA, putA, sRaise, List.getElem?_cons_zero, List.getElem?_cons_succ, List.set_cons_zero, List.set_cons_succ, Nat.reduceSub, Nat.reduceAdd, Nat.reduceLT, Nat.reduceLeDiff, Option.bind, Option.map, O.fzb, O.fzbK, fz, blD, VH.isN_none, VH.isN_int, VH.isN_str, VH.isN_bool, VH.isN_tup, VH.isN_lst, VH.isN_dic, vi_int, vi_bool, vi_str, vi_tuple, vi_list, vi_dict, truD, flR, flRA, List.map_cons, List.map_nil, List.replicate, List.cons_append, List.nil_append, List.length_cons, List.length_nil, if_true, if_false, ite_true, ite_false, Bool.false_eq_true, decide_true, decide_false, beq_self_eq_true, Bool.not_true, Bool.not_false, and_self, and_true, true_and, and_false, false_and, Bool.or_true, Bool.true_or, Bool.or_false, Bool.false_or, Bool.and_true, Bool.and_false, Bool.true_and, Bool.false_and, ne_eq, not_false_eq_true, not_true_eq_false, reduceCtorEq, lst_ord]
  rw [seq_ok (e := [some (.scr ns), some (tapeO T4), some (.sh (scD s)), some (.sh (qD q)), some (.sh ORD), some (.sh (.int i)), some (.sh (.int j)), none, none, none])]
  rotate_left
  · simp only [pr_run, out, oR, sSeq, sIf, eP, ePk, ePkT, eFr, frzS, frz1, shE, VH.shS_sh, VH.shS_lst, VH.shS_dic, VH.shS_scr, VH.shS_none, pVar, pC, pBin, pChain, pUn, pMap, pB, pTru, pNN, pNNo, pAnd, pOr, pNot, pAndV, pOrV, pNotV, pIf, pNil, pCons, pAll, pPart, pPart0, pSl, pM1, pSeq, pSeq2, pCall_pr, pGet2, pGet3, isDic, Pr.bind, Pr.lift, eAnd, eOr, eNot, eB, bnd, eBin, eUn, eSub, eC, VH.ret, lift, eVar, eSh, eFz, sSet, sRet, sPut, sAsg, sPar, sPar3, sFz, tgN, tgT, tgSeq, eAll, eCons, eNil, eIf, sDo, sApp, sExt, sNext, oLst, oAdd, oIf, oList, oDic0, eMov, eSl, ePart, eCallU, aNil, aVal, aBor, takeA, putA, sRaise, List.getElem?_cons_zero, List.getElem?_cons_succ, List.set_cons_zero, List.set_cons_succ, Nat.reduceSub, Nat.reduceAdd, Nat.reduceLT, Nat.reduceLeDiff, Option.bind, Option.map, O.fzb, O.fzbK, fz, blD, VH.isN_none, VH.isN_int, VH.isN_str, VH.isN_bool, VH.isN_tup, VH.isN_lst, VH.isN_dic, vi_int, vi_bool, vi_str, vi_tuple, vi_list, vi_dict, truD, flR, flRA, List.map_cons, List.map_nil, List.replicate, List.cons_append, List.nil_append, List.length_cons, List.length_nil, if_true, if_false, ite_true, ite_false, Bool.false_eq_true, decide_true, decide_false, beq_self_eq_true, Bool.not_true, Bool.not_false, and_self, and_true, true_and, and_false, false_and, Bool.or_true, Bool.true_or, Bool.or_false, Bool.false_or, Bool.and_true, Bool.and_false, Bool.true_and, Bool.false_and, ne_eq, not_false_eq_true, not_true_eq_false, reduceCtorEq, VH.eq_str, VH.ne_str, VH.eq_int, VH.ne_int, VH.add_int, VH.le_int, VH.lt_int, VH.gt_int, VH.ge_int, VH.ixt0, VH.ixt1, VH.ixt2, VH.ixl0, VH.ixl1, VH.tup0, VH.tup1, VH.tup2, VH.tup3, VH.lst0, VH.lst1, VH.lst2, VH.lst3, VH.len_list, VH.len_tuple, VH.items_list, VH.items_tuple, e4, e5]
  have hoT : shS (some (tapeO T4)) = none := rfl
  rw [seq_ok (e := [some (.scr ns), some (tapeO T5), some (.sh (scD s)), some (.sh (qD q)), some (.sh ORD), some (.sh (.int i)), some (.sh (.int j)), none, none, none])]
  rotate_left
  · simp only [pr_run, out, oR, sSeq, sIf, eP, ePk, ePkT, eFr, frzS, frz1, shE, VH.shS_sh, VH.shS_lst, VH.shS_dic, VH.shS_scr, VH.shS_none, pVar, pC, pBin, pChain, pUn, pMap, pB, pTru, pNN, pNNo, pAnd, pOr, pNot, pAndV, pOrV, pNotV, pIf, pNil, pCons, pAll, pPart, pPart0, pSl, pM1, pSeq, pSeq2, pCall_pr, pGet2, pGet3, isDic, Pr.bind, Pr.lift, eAnd, eOr, eNot, eB, bnd, eBin, eUn, eSub, eC, VH.ret, lift, eVar, eSh, eFz, sSet, sRet, sPut, sAsg, sPar, sPar3, sFz, tgN, tgT, tgSeq, eAll, eCons, eNil, eIf, sDo, sApp, sExt, sNext, oLst, oAdd, oIf, oList, oDic0, eMov, eSl, ePart, eCallU, aNil, aVal, aBor, takeA, putA, sRaise, List.getElem?_cons_zero, List.getElem?_cons_succ, List.set_cons_zero, List.set_cons_succ, Nat.reduceSub, Nat.reduceAdd, Nat.reduceLT, Nat.reduceLeDiff, Option.bind, Option.map, O.fzb, O.fzbK, fz, blD, VH.isN_none, VH.isN_int, VH.isN_str, VH.isN_bool, VH.isN_tup, VH.isN_lst, VH.isN_dic, vi_int, vi_bool, vi_str, vi_tuple, vi_list, vi_dict, truD, flR, flRA, List.map_cons, List.map_nil, List.replicate, List.cons_append, List.nil_append, List.length_cons, List.length_nil, if_true, if_false, ite_true, ite_false, Bool.false_eq_true, decide_true, decide_false, beq_self_eq_true, Bool.not_true, Bool.not_false, and_self, and_true, true_and, and_false, false_and, Bool.or_true, Bool.true_or, Bool.or_false, Bool.false_or, Bool.and_true, Bool.and_false, Bool.true_and, Bool.false_and, ne_eq, not_false_eq_true, not_true_eq_false, reduceCtorEq, VH.eq_str, VH.ne_str, VH.eq_int, VH.ne_int, VH.add_int, VH.le_int, VH.lt_int, VH.gt_int, VH.ge_int, VH.ixt0, VH.ixt1, VH.ixt2, VH.ixl0, VH.ixl1, VH.tup0, VH.tup1, VH.tup2, VH.tup3, VH.lst0, VH.lst1, VH.lst2, VH.lst3, VH.len_list, VH.len_tuple, VH.items_list, VH.items_tuple, oi, e6, e7]
  by_cases h : i < j ∧ i ≠ 0
  · obtain ⟨T6, T7, q6, q7, f1, f2, f3, f4⟩ := x_two w g T5 h.1 hj' h.2
    obtain ⟨a7, b7, f5⟩ := x_code k f4
    rw [f3] at f5
    replace f5 : r_code [.sh (scD s), .sh (qD q7)] = .ok (.sh (.str (ordL[i]'hi'))) [a7, b7] := f5
    have c7 : pr (r_code [.sh (scD s), .sh (qD q7)]) = .ok (.str (ordL[i]'hi')) := by rw [f5]; rfl
    have hn := nin_two (ordL[i]'hi') (ordL[j]'hj')
    have hlt : decide ((i : Int) < (j : Int)) = true := by simpa using h.1
    rw [decide_eq_false h.2] at hos
    generalize hci : (ordL[i]'hi') = ci at *
    generalize hcj : (ordL[j]'hj') = cj at *
    rw [seq_ok (e := [some (.scr ns), some (tapeO T7), some (.sh (scD s)), some (.sh (qD q)), some (.sh ORD), some (.sh (.int i)), some (.sh (.int j)), some (.sh (qD q7)), none, none])]
    rotate_left
    · simp only [pr_run, out, oR, sSeq, sIf, eP, ePk, ePkT, eFr, frzS, frz1, shE, VH.shS_sh, VH.shS_lst, VH.shS_dic, VH.shS_scr, VH.shS_none, pVar, pC, pBin, pChain, pUn, pMap, pB, pTru, pNN, pNNo, pAnd, pOr, pNot, pAndV, pOrV, pNotV, pIf, pNil, pCons, pAll, pPart, pPart0, pSl, pM1, pSeq, pSeq2, pCall_pr, pGet2, pGet3, isDic, Pr.bind, Pr.lift, eAnd, eOr, eNot, eB, bnd, eBin, eUn, eSub, eC, VH.ret, lift, eVar, eSh, eFz, sSet, sRet, sPut, sAsg, sPar, sPar3, sFz, tgN, tgT, tgSeq, eAll, eCons, eNil, eIf, sDo, sApp, sExt, sNext, oLst, oAdd, oIf, oList, oDic0, eMov, eSl, ePart, eCallU, aNil, aVal, aBor, takeA, putA, sRaise, List.getElem?_cons_zero, List.getElem?_cons_succ, List.set_cons_zero, List.set_cons_succ, Nat.reduceSub, Nat.reduceAdd, Nat.reduceLT, Nat.reduceLeDiff, Option.bind, Option.map, O.fzb, O.fzbK, fz, blD, VH.isN_none, VH.isN_int, VH.isN_str, VH.isN_bool, VH.isN_tup, VH.isN_lst, VH.isN_dic, vi_int, vi_bool, vi_str, vi_tuple, vi_list, vi_dict, truD, flR, flRA, List.map_cons, List.map_nil, List.replicate, List.cons_append, List.nil_append, List.length_cons, List.length_nil, if_true, if_false, ite_true, ite_false, Bool.false_eq_true, decide_true, decide_false, beq_self_eq_true, Bool.not_true, Bool.not_false, and_self, and_true, true_and, and_false, false_and, Bool.or_true, Bool.true_or, Bool.or_false, Bool.false_or, Bool.and_true, Bool.and_false, Bool.true_and, Bool.false_and, ne_eq, not_false_eq_true, not_true_eq_false, reduceCtorEq, VH.eq_str, VH.ne_str, VH.eq_int, VH.ne_int, VH.add_int, VH.le_int, VH.lt_int, VH.gt_int, VH.ge_int, VH.ixt0, VH.ixt1, VH.ixt2, VH.ixl0, VH.ixl1, VH.tup0, VH.tup1, VH.tup2, VH.tup3, VH.lst0, VH.lst1, VH.lst2, VH.lst3, VH.len_list, VH.len_tuple, VH.items_list, VH.items_tuple, oi, oj, hos, hlt, f1, f2, c7, hn]
    obtain ⟨T8, v8, v9, e⟩ := last T7 (some (.sh (qD q7)))
    rw [e]; rfl
  · rw [seq_ok (e := [some (.scr ns), some (tapeO T5), some (.sh (scD s)), some (.sh (qD q)), some (.sh ORD), some (.sh (.int i)), some (.sh (.int j)), none, none, none])]
    rotate_left
    · generalize hci : (ordL[i]'hi') = ci at *
      by_cases hij : i < j
      · have h0 : i = 0 := by omega
        have hlt : decide ((i : Int) < (j : Int)) = true := by simpa using hij
        rw [decide_eq_true h0] at hos
        simp only [pr_run, out, oR, sSeq, sIf, eP, ePk, ePkT, eFr, frzS, frz1, shE, VH.shS_sh, VH.shS_lst, VH.shS_dic, VH.shS_scr, VH.shS_none, pVar, pC, pBin, pChain, pUn, pMap, pB, pTru, pNN, pNNo, pAnd, pOr, pNot, pAndV, pOrV, pNotV, pIf, pNil, pCons, pAll, pPart, pPart0, pSl, pM1, pSeq, pSeq2, pCall_pr, pGet2, pGet3, isDic, Pr.bind, Pr.lift, eAnd, eOr, eNot, eB, bnd, eBin, eUn, eSub, eC, VH.ret, lift, eVar, eSh, eFz, sSet, sRet, sPut, sAsg, sPar, sPar3, sFz, tgN, tgT, tgSeq, eAll, eCons, eNil, eIf, sDo, sApp, sExt, sNext, oLst, oAdd, oIf, oList, oDic0, eMov, eSl, ePart, eCallU, aNil, aVal, aBor, takeA, putA, sRaise, List.getElem?_cons_zero, List.getElem?_cons_succ, List.set_cons_zero, List.set_cons_succ, Nat.reduceSub, Nat.reduceAdd, Nat.reduceLT, Nat.reduceLeDiff, Option.bind, Option.map, O.fzb, O.fzbK, fz, blD, VH.isN_none, VH.isN_int, VH.isN_str, VH.isN_bool, VH.isN_tup, VH.isN_lst, VH.isN_dic, vi_int, vi_bool, vi_str, vi_tuple, vi_list, vi_dict, truD, flR, flRA, List.map_cons, List.map_nil, List.replicate, List.cons_append, List.nil_append, List.length_cons, List.length_nil, if_true, if_false, ite_true, ite_false, Bool.false_eq_true, decide_true, decide_false, beq_self_eq_true, Bool.not_true, Bool.not_false, and_self, and_true, true_and, and_false, false_and, Bool.or_true, Bool.true_or, Bool.or_false, Bool.false_or, Bool.and_true, Bool.and_false, Bool.true_and, Bool.false_and, ne_eq, not_false_eq_true, not_true_eq_false, reduceCtorEq, VH.eq_str, VH.ne_str, VH.eq_int, VH.ne_int, VH.add_int, VH.le_int, VH.lt_int, VH.gt_int, VH.ge_int, VH.ixt0, VH.ixt1, VH.ixt2, VH.ixl0, VH.ixl1, VH.tup0, VH.tup1, VH.tup2, VH.tup3, VH.lst0, VH.lst1, VH.lst2, VH.lst3, VH.len_list, VH.len_tuple, VH.items_list, VH.items_tuple, oi, hos, hlt]
      · have hlt : decide ((i : Int) < (j : Int)) = false := by simpa using hij
        simp only [pr_run, out, oR, sSeq, sIf, eP, ePk, ePkT, eFr, frzS, frz1, shE, VH.shS_sh, VH.shS_lst, VH.shS_dic, VH.shS_scr, VH.shS_none, pVar, pC, pBin, pChain, pUn, pMap, pB, pTru, pNN, pNNo, pAnd, pOr, pNot, pAndV, pOrV, pNotV, pIf, pNil, pCons, pAll, pPart, pPart0, pSl, pM1, pSeq, pSeq2, pCall_pr, pGet2, pGet3, isDic, Pr.bind, Pr.lift, eAnd, eOr, eNot, eB, bnd, eBin, eUn, eSub, eC, VH.ret, lift, eVar, eSh, eFz, sSet, sRet, sPut, sAsg, sPar, sPar3, sFz, tgN, tgT, tgSeq, eAll, eCons, eNil, eIf, sDo, sApp, sExt, sNext, oLst, oAdd, oIf, oList, oDic0, eMov, eSl, ePart, eCallU, aNil, aVal, aBor, takeA, putA, sRaise, List.getElem?_cons_zero, List.getElem?_cons_succ, List.set_cons_zero, List.set_cons_succ, Nat.reduceSub, Nat.reduceAdd, Nat.reduceLT, Nat.reduceLeDiff, Option.bind, Option.map, O.fzb, O.fzbK, fz, blD, VH.isN_none, VH.isN_int, VH.isN_str, VH.isN_bool, VH.isN_tup, VH.isN_lst, VH.isN_dic, vi_int, vi_bool, vi_str, vi_tuple, vi_list, vi_dict, truD, flR, flRA, List.map_cons, List.map_nil, List.replicate, List.cons_append, List.nil_append, List.length_cons, List.length_nil, if_true, if_false, ite_true, ite_false, Bool.false_eq_true, decide_true, decide_false, beq_self_eq_true, Bool.not_true, Bool.not_false, and_self, and_true, true_and, and_false, false_and, Bool.or_true, Bool.true_or, Bool.or_false, Bool.false_or, Bool.and_true, Bool.and_false, Bool.true_and, Bool.false_and, ne_eq, not_false_eq_true, not_true_eq_false, reduceCtorEq, VH.eq_str, VH.ne_str, VH.eq_int, VH.ne_int, VH.add_int, VH.le_int, VH.lt_int, VH.gt_int, VH.ge_int, VH.ixt0, VH.ixt1, VH.ixt2, VH.ixl0, VH.ixl1, VH.tup0, VH.tup1, VH.tup2, VH.tup3, VH.lst0, VH.lst1, VH.lst2, VH.lst3, VH.len_list, VH.len_tuple, VH.items_list, VH.items_tuple, oi, hlt]
    obtain ⟨T8, v8, v9, e⟩ := last T5 none
    rw [e]; rfl
end K67
set_option Elab.async false
set_option linter.all false
set_option maxRecDepth 100000
set_option maxHeartbeats 4000000
namespace K67
open PySem PySem.Spec PyProof.Rows L2 VH VC
def spLaw (K : PySem.W.Frag) : Sp := fun vs H Q _ => ∃ (a : Addr) (ns : List Int), vs = [.ref a] ∧ SqL K H a (ns.map V.int) ∧ ∀ H', Q (.bl true) H'
section
variable {P : Program} {w : World} {K : PySem.W.Frag} {mg : Str → Option Value} {base : Heap}
theorem ok_all (T : Tx P w K mg base)
    {a_is_integer : Addr} {fd_is_integer : FuncData} (F_is_integer : Fun K "is_integer" "is_integer" s_is_integer a_is_integer fd_is_integer) (m_is_integer : mg "is_integer" = some (.ref a_is_integer))
    {a_is_plain_text : Addr} {fd_is_plain_text : FuncData} (F_is_plain_text : Fun K "is_plain_text" "is_plain_text" s_is_plain_text a_is_plain_text fd_is_plain_text) (m_is_plain_text : mg "is_plain_text" = some (.ref a_is_plain_text))
    {a_is_value : Addr} {fd_is_value : FuncData} (F_is_value : Fun K "is_value" "is_value" s_is_value a_is_value fd_is_value) (m_is_value : mg "is_value" = some (.ref a_is_value))
    {a_kind_of : Addr} {fd_kind_of : FuncData} (F_kind_of : Fun K "kind_of" "kind_of" s_kind_of a_kind_of fd_kind_of) (m_kind_of : mg "kind_of" = some (.ref a_kind_of))
    {a_fits_column : Addr} {fd_fits_column : FuncData} (F_fits_column : Fun K "fits_column" "fits_column" s_fits_column a_fits_column fd_fits_column) (m_fits_column : mg "fits_column" = some (.ref a_fits_column))
    {a_is_variable_name : Addr} {fd_is_variable_name : FuncData} (F_is_variable_name : Fun K "is_variable_name" "is_variable_name" s_is_variable_name a_is_variable_name fd_is_variable_name) (m_is_variable_name : mg "is_variable_name" = some (.ref a_is_variable_name))
    {a_term_fits : Addr} {fd_term_fits : FuncData} (F_term_fits : Fun K "term_fits" "term_fits" s_term_fits a_term_fits fd_term_fits) (m_term_fits : mg "term_fits" = some (.ref a_term_fits))
    {a_terms_fit : Addr} {fd_terms_fit : FuncData} (F_terms_fit : Fun K "terms_fit" "terms_fit" s_terms_fit a_terms_fit fd_terms_fit) (m_terms_fit : mg "terms_fit" = some (.ref a_terms_fit))
    {a_kinds_of : Addr} {fd_kinds_of : FuncData} (F_kinds_of : Fun K "kinds_of" "kinds_of" s_kinds_of a_kinds_of fd_kinds_of) (m_kinds_of : mg "kinds_of" = some (.ref a_kinds_of))
    {a_check_question : Addr} {fd_check_question : FuncData} (F_check_question : Fun K "check_question" "check_question" s_check_question a_check_question fd_check_question) (m_check_question : mg "check_question" = some (.ref a_check_question))
    {a_rows_for : Addr} {fd_rows_for : FuncData} (F_rows_for : Fun K "rows_for" "rows_for" s_rows_for a_rows_for fd_rows_for) (m_rows_for : mg "rows_for" = some (.ref a_rows_for))
    {a_all_valuations : Addr} {fd_all_valuations : FuncData} (F_all_valuations : Fun K "all_valuations" "all_valuations" s_all_valuations a_all_valuations fd_all_valuations) (m_all_valuations : mg "all_valuations" = some (.ref a_all_valuations))
    {a_plain_answer : Addr} {fd_plain_answer : FuncData} (F_plain_answer : Fun K "plain_answer" "plain_answer" s_plain_answer a_plain_answer fd_plain_answer) (m_plain_answer : mg "plain_answer" = some (.ref a_plain_answer))
    {a__law_tape : Addr} {fd__law_tape : FuncData} (F__law_tape : Fun K "_law_tape" "_law_tape" s__law_tape a__law_tape fd__law_tape) (m__law_tape : mg "_law_tape" = some (.ref a__law_tape))
    {a__law_take : Addr} {fd__law_take : FuncData} (F__law_take : Fun K "_law_take" "_law_take" s__law_take a__law_take fd__law_take) (m__law_take : mg "_law_take" = some (.ref a__law_take))
    {a__law_small : Addr} {fd__law_small : FuncData} (F__law_small : Fun K "_law_small" "_law_small" s__law_small a__law_small fd__law_small) (m__law_small : mg "_law_small" = some (.ref a__law_small))
    {a__law_plain_schema : Addr} {fd__law_plain_schema : FuncData} (F__law_plain_schema : Fun K "_law_plain_schema" "_law_plain_schema" s__law_plain_schema a__law_plain_schema fd__law_plain_schema) (m__law_plain_schema : mg "_law_plain_schema" = some (.ref a__law_plain_schema))
    {a__law_term : Addr} {fd__law_term : FuncData} (F__law_term : Fun K "_law_term" "_law_term" s__law_term a__law_term fd__law_term) (m__law_term : mg "_law_term" = some (.ref a__law_term))
    {a__law_question : Addr} {fd__law_question : FuncData} (F__law_question : Fun K "_law_question" "_law_question" s__law_question a__law_question fd__law_question) (m__law_question : mg "_law_question" = some (.ref a__law_question))
    {a__law_empty : Addr} {fd__law_empty : FuncData} (F__law_empty : Fun K "_law_empty" "_law_empty" s__law_empty a__law_empty fd__law_empty) (m__law_empty : mg "_law_empty" = some (.ref a__law_empty))
    {a__law_code : Addr} {fd__law_code : FuncData} (F__law_code : Fun K "_law_code" "_law_code" s__law_code a__law_code fd__law_code) (m__law_code : mg "_law_code" = some (.ref a__law_code))
    {a__law_with : Addr} {fd__law_with : FuncData} (F__law_with : Fun K "_law_with" "_law_with" s__law_with a__law_with fd__law_with) (m__law_with : mg "_law_with" = some (.ref a__law_with))
    {a__law_faulty : Addr} {fd__law_faulty : FuncData} (F__law_faulty : Fun K "_law_faulty" "_law_faulty" s__law_faulty a__law_faulty fd__law_faulty) (m__law_faulty : mg "_law_faulty" = some (.ref a__law_faulty))
    {a_law : Addr} {fd_law : FuncData} (F_law : Fun K "law" "law" s_law a_law fd_law) (m_law : mg "law" = some (.ref a_law)) : FnOk P w K mg base (L2.CX P w) 9 a_law fd_law ["script"] (spLaw K) := by
  have G_is_integer : FnG P w K mg base 1 "is_integer" bs_is_integer (VC.r_is_integer) := g_is_integer (k := 0) T F_is_integer m_is_integer (fun _ _ _ => rfl)
  have G_is_plain_text : FnG P w K mg base 1 "is_plain_text" bs_is_plain_text (VC.r_is_plain_text) := g_is_plain_text (k := 0) T F_is_plain_text m_is_plain_text (fun _ _ _ => rfl)
  have G_is_value : FnG P w K mg base 2 "is_value" bs_is_value (VC.r_is_value) := g_is_value (k := 1) T G_is_integer (by decide) G_is_plain_text (by decide) F_is_value m_is_value (fun _ _ _ => rfl)
  have G_kind_of : FnG P w K mg base 1 "kind_of" bs_kind_of (VC.r_kind_of) := g_kind_of (k := 0) T F_kind_of m_kind_of (fun _ _ _ => rfl)
  have G_fits_column : FnG P w K mg base 3 "fits_column" bs_fits_column (VC.r_fits_column) := g_fits_column (k := 2) T G_is_value (by decide) G_kind_of (by decide) F_fits_column m_fits_column (fun _ _ _ => rfl)
  have G_is_variable_name : FnG P w K mg base 1 "is_variable_name" bs_is_variable_name (VC.r_is_variable_name) := g_is_variable_name (k := 0) T F_is_variable_name m_is_variable_name (fun _ _ _ => rfl)
  have G_term_fits : FnG P w K mg base 4 "term_fits" bs_term_fits (VC.r_term_fits) := g_term_fits (k := 3) T G_is_variable_name (by decide) G_fits_column (by decide) F_term_fits m_term_fits (fun _ _ _ => rfl)
  have G_terms_fit : FnG P w K mg base 5 "terms_fit" bs_terms_fit (VC.r_terms_fit) := g_terms_fit (k := 4) T G_term_fits (by decide) F_terms_fit m_terms_fit (fun _ _ _ => rfl)
  have G_kinds_of : FnG P w K mg base 1 "kinds_of" bs_kinds_of (VC.r_kinds_of) := g_kinds_of (k := 0) T F_kinds_of m_kinds_of (fun _ _ _ => rfl)
  have G_check_question : FnG P w K mg base 6 "check_question" bs_check_question (VC.r_check_question) := g_check_question (k := 5) T (by decide) G_terms_fit (by decide) G_kinds_of (by decide) F_check_question m_check_question (fun _ _ _ => rfl)
  have G_rows_for : FnG P w K mg base 1 "rows_for" bs_rows_for (r_rows_for) := g_rows_for (k := 0) T F_rows_for m_rows_for (fun _ _ _ => rfl)
  have G_all_valuations : FnG P w K mg base 2 "all_valuations" bs_all_valuations (r_all_val) := g_all_valuations (k := 1) T G_rows_for (by decide) F_all_valuations m_all_valuations (fun _ _ _ => rfl)
  have G_plain_answer : FnG P w K mg base 7 "plain_answer" bs_plain_answer (r_plain) := g_plain_answer (k := 6) T G_check_question (by decide) G_all_valuations (by decide) F_plain_answer m_plain_answer (fun _ _ _ => rfl)
  have G__law_tape : FnG P w K mg base 1 "_law_tape" bs__law_tape (VC.r__law_tape) := g__law_tape (k := 0) T F__law_tape m__law_tape (fun _ _ _ => rfl)
  have G__law_take : FnG P w K mg base 1 "_law_take" bs__law_take (VC.r__law_take) := g__law_take (k := 0) T F__law_take m__law_take (fun _ _ _ => rfl)
  have G__law_small : FnG P w K mg base 2 "_law_small" bs__law_small (VC.r__law_small) := g__law_small (k := 1) T G__law_take (by decide) F__law_small m__law_small (fun _ _ _ => rfl)
  have G__law_plain_schema : FnG P w K mg base 2 "_law_plain_schema" bs__law_plain_schema (VC.r__law_plain_schema) := g__law_plain_schema (k := 1) T G__law_take (by decide) F__law_plain_schema m__law_plain_schema (fun _ _ _ => rfl)
  have G__law_term : FnG P w K mg base 3 "_law_term" bs__law_term (VC.r__law_term) := g__law_term (k := 2) T G__law_take (by decide) G__law_small (by decide) F__law_term m__law_term (fun _ _ _ => rfl)
  have G__law_question : FnG P w K mg base 4 "_law_question" bs__law_question (VC.r__law_question) := g__law_question (k := 3) T G__law_take (by decide) G__law_term (by decide) F__law_question m__law_question (fun _ _ _ => rfl)
  have G__law_empty : FnG P w K mg base 1 "_law_empty" bs__law_empty (r_law_empty) := g__law_empty (k := 0) T F__law_empty m__law_empty (fun _ _ _ => rfl)
  have G__law_code : FnG P w K mg base 8 "_law_code" bs__law_code (r_code) := g__law_code (k := 7) T G_check_question (by decide) G_plain_answer (by decide) G__law_empty (by decide) F__law_code m__law_code (fun _ _ _ => rfl)
  have G__law_with : FnG P w K mg base 1 "_law_with" bs__law_with (r_with) := g__law_with (k := 0) T F__law_with m__law_with (fun _ _ _ => rfl)
  have G__law_faulty : FnG P w K mg base 2 "_law_faulty" bs__law_faulty (r_faulty) := g__law_faulty (k := 1) T G__law_take (by decide) G__law_with (by decide) F__law_faulty m__law_faulty (fun _ _ _ => rfl)
  have O : FnOk P w K mg base (L2.CX P w) 9 a_law fd_law p_law (spO ⟨K, mg⟩ bs_law r_law) := fnD F_law sc_law rfl rfl (fun _ _ _ => rfl) (fun cdv A outer s H vs E hr => d_law (k := 8) T G__law_tape (by decide) G__law_plain_schema (by decide) G__law_question (by decide) G__law_code (by decide) G__law_take (by decide) G__law_faulty (by decide) hr)
  refine O.imp fun vs H Q E h => ?_
  obtain ⟨a, ns, rfl, hS, hQ⟩ := h
  exact law_spG hS (law_ok ns) hQ
end
def clsB : Stmt → List Stmt
  | .ClassDef (body := b) .. => b
  | _ => []
theorem exm_own {K : PySem.W.Frag} {S : Addr} (hB : PySem.W.subIn K (.ref S) (.type "BaseException") = some true) (hI : PySem.W.isClsIn K S = true)
    (hT : PySem.W.typeIn K (.ref S) = some (.type "type")) (hS : PySem.W.subIn K (.ref S) (.ref S) = some true) : PySem.W.exmOne K (.ref S) (.ref S) = some true := by
  have hJ : (PySem.W.clsIn K S).isSome = true := hI
  simp [PySem.W.exmOne, PySem.W.kitCls, hB, hT, hS, hJ]
abbrev s_ini_QuestionError : Stmt := (clsB (topS 2)).getD 0 (.Pass ⟨0, 0, 0, 0⟩)
theorem sc_ini_QuestionError : FnScope ["self", "code"] ["self", "code"] (defScope s_ini_QuestionError) := ⟨rfl, rfl, rfl, by decide +kernel, rfl, by decide +kernel, by decide +kernel⟩
theorem ini_QuestionError {P : Program} {w : World} {K : PySem.W.Frag} {mg : Str → Option Value} {base : Heap} {fI : Addr} {fd : FuncData} (F : Fun K "__init__" "QuestionError.__init__" s_ini_QuestionError fI fd) : FnOk P w K mg base CX0 1 fI fd ["self", "code"] (spI K "code") := init_ok F sc_ini_QuestionError (fun _ _ _ _ _ _ => Or.inl rfl) (fun _ _ _ _ _ _ => Or.inl rfl) rfl (by decide) (by decide) (by decide) (by decide)
theorem all_mk {l : PySem.W.OpenLaw} {w : World} {K : PySem.W.Frag} {h : Heap} {mg : Str → Option Value} {fa : Addr} (X : K.In h) (G : h.Ns mainGlobals mg) (hfa : mg "law" = some (.ref fa))
    {f_is_integer : Addr} {od_is_integer an_is_integer : Option Addr} {sl_is_integer : Array (Option Value)} {oc_is_integer kV_is_integer dc_is_integer pm_is_integer cd_is_integer ct_is_integer : Value} (a_is_integer : PySem.W.nsIn K mainGlobals "is_integer" = some (some (.ref f_is_integer))) (l_is_integer : K.lookup f_is_integer = some ⟨oc_is_integer, od_is_integer, .func (PySem.W.fnOf "is_integer" "is_integer" (defArgs s_is_integer) (defBody s_is_integer) (defScope s_is_integer) .none kV_is_integer dc_is_integer pm_is_integer an_is_integer cd_is_integer ct_is_integer), sl_is_integer⟩) (c_is_integer : PySem.W.codeIn K cd_is_integer "is_integer" = true) (k_is_integer : PySem.W.keepIn K (.ref f_is_integer) = true)
    {f_is_plain_text : Addr} {od_is_plain_text an_is_plain_text : Option Addr} {sl_is_plain_text : Array (Option Value)} {oc_is_plain_text kV_is_plain_text dc_is_plain_text pm_is_plain_text cd_is_plain_text ct_is_plain_text : Value} (a_is_plain_text : PySem.W.nsIn K mainGlobals "is_plain_text" = some (some (.ref f_is_plain_text))) (l_is_plain_text : K.lookup f_is_plain_text = some ⟨oc_is_plain_text, od_is_plain_text, .func (PySem.W.fnOf "is_plain_text" "is_plain_text" (defArgs s_is_plain_text) (defBody s_is_plain_text) (defScope s_is_plain_text) .none kV_is_plain_text dc_is_plain_text pm_is_plain_text an_is_plain_text cd_is_plain_text ct_is_plain_text), sl_is_plain_text⟩) (c_is_plain_text : PySem.W.codeIn K cd_is_plain_text "is_plain_text" = true) (k_is_plain_text : PySem.W.keepIn K (.ref f_is_plain_text) = true)
    {f_is_value : Addr} {od_is_value an_is_value : Option Addr} {sl_is_value : Array (Option Value)} {oc_is_value kV_is_value dc_is_value pm_is_value cd_is_value ct_is_value : Value} (a_is_value : PySem.W.nsIn K mainGlobals "is_value" = some (some (.ref f_is_value))) (l_is_value : K.lookup f_is_value = some ⟨oc_is_value, od_is_value, .func (PySem.W.fnOf "is_value" "is_value" (defArgs s_is_value) (defBody s_is_value) (defScope s_is_value) .none kV_is_value dc_is_value pm_is_value an_is_value cd_is_value ct_is_value), sl_is_value⟩) (c_is_value : PySem.W.codeIn K cd_is_value "is_value" = true) (k_is_value : PySem.W.keepIn K (.ref f_is_value) = true)
    {f_kind_of : Addr} {od_kind_of an_kind_of : Option Addr} {sl_kind_of : Array (Option Value)} {oc_kind_of kV_kind_of dc_kind_of pm_kind_of cd_kind_of ct_kind_of : Value} (a_kind_of : PySem.W.nsIn K mainGlobals "kind_of" = some (some (.ref f_kind_of))) (l_kind_of : K.lookup f_kind_of = some ⟨oc_kind_of, od_kind_of, .func (PySem.W.fnOf "kind_of" "kind_of" (defArgs s_kind_of) (defBody s_kind_of) (defScope s_kind_of) .none kV_kind_of dc_kind_of pm_kind_of an_kind_of cd_kind_of ct_kind_of), sl_kind_of⟩) (c_kind_of : PySem.W.codeIn K cd_kind_of "kind_of" = true) (k_kind_of : PySem.W.keepIn K (.ref f_kind_of) = true)
    {f_fits_column : Addr} {od_fits_column an_fits_column : Option Addr} {sl_fits_column : Array (Option Value)} {oc_fits_column kV_fits_column dc_fits_column pm_fits_column cd_fits_column ct_fits_column : Value} (a_fits_column : PySem.W.nsIn K mainGlobals "fits_column" = some (some (.ref f_fits_column))) (l_fits_column : K.lookup f_fits_column = some ⟨oc_fits_column, od_fits_column, .func (PySem.W.fnOf "fits_column" "fits_column" (defArgs s_fits_column) (defBody s_fits_column) (defScope s_fits_column) .none kV_fits_column dc_fits_column pm_fits_column an_fits_column cd_fits_column ct_fits_column), sl_fits_column⟩) (c_fits_column : PySem.W.codeIn K cd_fits_column "fits_column" = true) (k_fits_column : PySem.W.keepIn K (.ref f_fits_column) = true)
    {f_is_variable_name : Addr} {od_is_variable_name an_is_variable_name : Option Addr} {sl_is_variable_name : Array (Option Value)} {oc_is_variable_name kV_is_variable_name dc_is_variable_name pm_is_variable_name cd_is_variable_name ct_is_variable_name : Value} (a_is_variable_name : PySem.W.nsIn K mainGlobals "is_variable_name" = some (some (.ref f_is_variable_name))) (l_is_variable_name : K.lookup f_is_variable_name = some ⟨oc_is_variable_name, od_is_variable_name, .func (PySem.W.fnOf "is_variable_name" "is_variable_name" (defArgs s_is_variable_name) (defBody s_is_variable_name) (defScope s_is_variable_name) .none kV_is_variable_name dc_is_variable_name pm_is_variable_name an_is_variable_name cd_is_variable_name ct_is_variable_name), sl_is_variable_name⟩) (c_is_variable_name : PySem.W.codeIn K cd_is_variable_name "is_variable_name" = true) (k_is_variable_name : PySem.W.keepIn K (.ref f_is_variable_name) = true)
    {f_term_fits : Addr} {od_term_fits an_term_fits : Option Addr} {sl_term_fits : Array (Option Value)} {oc_term_fits kV_term_fits dc_term_fits pm_term_fits cd_term_fits ct_term_fits : Value} (a_term_fits : PySem.W.nsIn K mainGlobals "term_fits" = some (some (.ref f_term_fits))) (l_term_fits : K.lookup f_term_fits = some ⟨oc_term_fits, od_term_fits, .func (PySem.W.fnOf "term_fits" "term_fits" (defArgs s_term_fits) (defBody s_term_fits) (defScope s_term_fits) .none kV_term_fits dc_term_fits pm_term_fits an_term_fits cd_term_fits ct_term_fits), sl_term_fits⟩) (c_term_fits : PySem.W.codeIn K cd_term_fits "term_fits" = true) (k_term_fits : PySem.W.keepIn K (.ref f_term_fits) = true)
    {f_terms_fit : Addr} {od_terms_fit an_terms_fit : Option Addr} {sl_terms_fit : Array (Option Value)} {oc_terms_fit kV_terms_fit dc_terms_fit pm_terms_fit cd_terms_fit ct_terms_fit : Value} (a_terms_fit : PySem.W.nsIn K mainGlobals "terms_fit" = some (some (.ref f_terms_fit))) (l_terms_fit : K.lookup f_terms_fit = some ⟨oc_terms_fit, od_terms_fit, .func (PySem.W.fnOf "terms_fit" "terms_fit" (defArgs s_terms_fit) (defBody s_terms_fit) (defScope s_terms_fit) .none kV_terms_fit dc_terms_fit pm_terms_fit an_terms_fit cd_terms_fit ct_terms_fit), sl_terms_fit⟩) (c_terms_fit : PySem.W.codeIn K cd_terms_fit "terms_fit" = true) (k_terms_fit : PySem.W.keepIn K (.ref f_terms_fit) = true)
    {f_kinds_of : Addr} {od_kinds_of an_kinds_of : Option Addr} {sl_kinds_of : Array (Option Value)} {oc_kinds_of kV_kinds_of dc_kinds_of pm_kinds_of cd_kinds_of ct_kinds_of : Value} (a_kinds_of : PySem.W.nsIn K mainGlobals "kinds_of" = some (some (.ref f_kinds_of))) (l_kinds_of : K.lookup f_kinds_of = some ⟨oc_kinds_of, od_kinds_of, .func (PySem.W.fnOf "kinds_of" "kinds_of" (defArgs s_kinds_of) (defBody s_kinds_of) (defScope s_kinds_of) .none kV_kinds_of dc_kinds_of pm_kinds_of an_kinds_of cd_kinds_of ct_kinds_of), sl_kinds_of⟩) (c_kinds_of : PySem.W.codeIn K cd_kinds_of "kinds_of" = true) (k_kinds_of : PySem.W.keepIn K (.ref f_kinds_of) = true)
    {f_check_question : Addr} {od_check_question an_check_question : Option Addr} {sl_check_question : Array (Option Value)} {oc_check_question kV_check_question dc_check_question pm_check_question cd_check_question ct_check_question : Value} (a_check_question : PySem.W.nsIn K mainGlobals "check_question" = some (some (.ref f_check_question))) (l_check_question : K.lookup f_check_question = some ⟨oc_check_question, od_check_question, .func (PySem.W.fnOf "check_question" "check_question" (defArgs s_check_question) (defBody s_check_question) (defScope s_check_question) .none kV_check_question dc_check_question pm_check_question an_check_question cd_check_question ct_check_question), sl_check_question⟩) (c_check_question : PySem.W.codeIn K cd_check_question "check_question" = true) (k_check_question : PySem.W.keepIn K (.ref f_check_question) = true)
    {f_rows_for : Addr} {od_rows_for an_rows_for : Option Addr} {sl_rows_for : Array (Option Value)} {oc_rows_for kV_rows_for dc_rows_for pm_rows_for cd_rows_for ct_rows_for : Value} (a_rows_for : PySem.W.nsIn K mainGlobals "rows_for" = some (some (.ref f_rows_for))) (l_rows_for : K.lookup f_rows_for = some ⟨oc_rows_for, od_rows_for, .func (PySem.W.fnOf "rows_for" "rows_for" (defArgs s_rows_for) (defBody s_rows_for) (defScope s_rows_for) .none kV_rows_for dc_rows_for pm_rows_for an_rows_for cd_rows_for ct_rows_for), sl_rows_for⟩) (c_rows_for : PySem.W.codeIn K cd_rows_for "rows_for" = true) (k_rows_for : PySem.W.keepIn K (.ref f_rows_for) = true)
    {f_all_valuations : Addr} {od_all_valuations an_all_valuations : Option Addr} {sl_all_valuations : Array (Option Value)} {oc_all_valuations kV_all_valuations dc_all_valuations pm_all_valuations cd_all_valuations ct_all_valuations : Value} (a_all_valuations : PySem.W.nsIn K mainGlobals "all_valuations" = some (some (.ref f_all_valuations))) (l_all_valuations : K.lookup f_all_valuations = some ⟨oc_all_valuations, od_all_valuations, .func (PySem.W.fnOf "all_valuations" "all_valuations" (defArgs s_all_valuations) (defBody s_all_valuations) (defScope s_all_valuations) .none kV_all_valuations dc_all_valuations pm_all_valuations an_all_valuations cd_all_valuations ct_all_valuations), sl_all_valuations⟩) (c_all_valuations : PySem.W.codeIn K cd_all_valuations "all_valuations" = true) (k_all_valuations : PySem.W.keepIn K (.ref f_all_valuations) = true)
    {f_plain_answer : Addr} {od_plain_answer an_plain_answer : Option Addr} {sl_plain_answer : Array (Option Value)} {oc_plain_answer kV_plain_answer dc_plain_answer pm_plain_answer cd_plain_answer ct_plain_answer : Value} (a_plain_answer : PySem.W.nsIn K mainGlobals "plain_answer" = some (some (.ref f_plain_answer))) (l_plain_answer : K.lookup f_plain_answer = some ⟨oc_plain_answer, od_plain_answer, .func (PySem.W.fnOf "plain_answer" "plain_answer" (defArgs s_plain_answer) (defBody s_plain_answer) (defScope s_plain_answer) .none kV_plain_answer dc_plain_answer pm_plain_answer an_plain_answer cd_plain_answer ct_plain_answer), sl_plain_answer⟩) (c_plain_answer : PySem.W.codeIn K cd_plain_answer "plain_answer" = true) (k_plain_answer : PySem.W.keepIn K (.ref f_plain_answer) = true)
    {f__law_tape : Addr} {od__law_tape an__law_tape : Option Addr} {sl__law_tape : Array (Option Value)} {oc__law_tape kV__law_tape dc__law_tape pm__law_tape cd__law_tape ct__law_tape : Value} (a__law_tape : PySem.W.nsIn K mainGlobals "_law_tape" = some (some (.ref f__law_tape))) (l__law_tape : K.lookup f__law_tape = some ⟨oc__law_tape, od__law_tape, .func (PySem.W.fnOf "_law_tape" "_law_tape" (defArgs s__law_tape) (defBody s__law_tape) (defScope s__law_tape) .none kV__law_tape dc__law_tape pm__law_tape an__law_tape cd__law_tape ct__law_tape), sl__law_tape⟩) (c__law_tape : PySem.W.codeIn K cd__law_tape "_law_tape" = true) (k__law_tape : PySem.W.keepIn K (.ref f__law_tape) = true)
    {f__law_take : Addr} {od__law_take an__law_take : Option Addr} {sl__law_take : Array (Option Value)} {oc__law_take kV__law_take dc__law_take pm__law_take cd__law_take ct__law_take : Value} (a__law_take : PySem.W.nsIn K mainGlobals "_law_take" = some (some (.ref f__law_take))) (l__law_take : K.lookup f__law_take = some ⟨oc__law_take, od__law_take, .func (PySem.W.fnOf "_law_take" "_law_take" (defArgs s__law_take) (defBody s__law_take) (defScope s__law_take) .none kV__law_take dc__law_take pm__law_take an__law_take cd__law_take ct__law_take), sl__law_take⟩) (c__law_take : PySem.W.codeIn K cd__law_take "_law_take" = true) (k__law_take : PySem.W.keepIn K (.ref f__law_take) = true)
    {f__law_small : Addr} {od__law_small an__law_small : Option Addr} {sl__law_small : Array (Option Value)} {oc__law_small kV__law_small dc__law_small pm__law_small cd__law_small ct__law_small : Value} (a__law_small : PySem.W.nsIn K mainGlobals "_law_small" = some (some (.ref f__law_small))) (l__law_small : K.lookup f__law_small = some ⟨oc__law_small, od__law_small, .func (PySem.W.fnOf "_law_small" "_law_small" (defArgs s__law_small) (defBody s__law_small) (defScope s__law_small) .none kV__law_small dc__law_small pm__law_small an__law_small cd__law_small ct__law_small), sl__law_small⟩) (c__law_small : PySem.W.codeIn K cd__law_small "_law_small" = true) (k__law_small : PySem.W.keepIn K (.ref f__law_small) = true)
    {f__law_plain_schema : Addr} {od__law_plain_schema an__law_plain_schema : Option Addr} {sl__law_plain_schema : Array (Option Value)} {oc__law_plain_schema kV__law_plain_schema dc__law_plain_schema pm__law_plain_schema cd__law_plain_schema ct__law_plain_schema : Value} (a__law_plain_schema : PySem.W.nsIn K mainGlobals "_law_plain_schema" = some (some (.ref f__law_plain_schema))) (l__law_plain_schema : K.lookup f__law_plain_schema = some ⟨oc__law_plain_schema, od__law_plain_schema, .func (PySem.W.fnOf "_law_plain_schema" "_law_plain_schema" (defArgs s__law_plain_schema) (defBody s__law_plain_schema) (defScope s__law_plain_schema) .none kV__law_plain_schema dc__law_plain_schema pm__law_plain_schema an__law_plain_schema cd__law_plain_schema ct__law_plain_schema), sl__law_plain_schema⟩) (c__law_plain_schema : PySem.W.codeIn K cd__law_plain_schema "_law_plain_schema" = true) (k__law_plain_schema : PySem.W.keepIn K (.ref f__law_plain_schema) = true)
    {f__law_term : Addr} {od__law_term an__law_term : Option Addr} {sl__law_term : Array (Option Value)} {oc__law_term kV__law_term dc__law_term pm__law_term cd__law_term ct__law_term : Value} (a__law_term : PySem.W.nsIn K mainGlobals "_law_term" = some (some (.ref f__law_term))) (l__law_term : K.lookup f__law_term = some ⟨oc__law_term, od__law_term, .func (PySem.W.fnOf "_law_term" "_law_term" (defArgs s__law_term) (defBody s__law_term) (defScope s__law_term) .none kV__law_term dc__law_term pm__law_term an__law_term cd__law_term ct__law_term), sl__law_term⟩) (c__law_term : PySem.W.codeIn K cd__law_term "_law_term" = true) (k__law_term : PySem.W.keepIn K (.ref f__law_term) = true)
    {f__law_question : Addr} {od__law_question an__law_question : Option Addr} {sl__law_question : Array (Option Value)} {oc__law_question kV__law_question dc__law_question pm__law_question cd__law_question ct__law_question : Value} (a__law_question : PySem.W.nsIn K mainGlobals "_law_question" = some (some (.ref f__law_question))) (l__law_question : K.lookup f__law_question = some ⟨oc__law_question, od__law_question, .func (PySem.W.fnOf "_law_question" "_law_question" (defArgs s__law_question) (defBody s__law_question) (defScope s__law_question) .none kV__law_question dc__law_question pm__law_question an__law_question cd__law_question ct__law_question), sl__law_question⟩) (c__law_question : PySem.W.codeIn K cd__law_question "_law_question" = true) (k__law_question : PySem.W.keepIn K (.ref f__law_question) = true)
    {f__law_empty : Addr} {od__law_empty an__law_empty : Option Addr} {sl__law_empty : Array (Option Value)} {oc__law_empty kV__law_empty dc__law_empty pm__law_empty cd__law_empty ct__law_empty : Value} (a__law_empty : PySem.W.nsIn K mainGlobals "_law_empty" = some (some (.ref f__law_empty))) (l__law_empty : K.lookup f__law_empty = some ⟨oc__law_empty, od__law_empty, .func (PySem.W.fnOf "_law_empty" "_law_empty" (defArgs s__law_empty) (defBody s__law_empty) (defScope s__law_empty) .none kV__law_empty dc__law_empty pm__law_empty an__law_empty cd__law_empty ct__law_empty), sl__law_empty⟩) (c__law_empty : PySem.W.codeIn K cd__law_empty "_law_empty" = true) (k__law_empty : PySem.W.keepIn K (.ref f__law_empty) = true)
    {f__law_code : Addr} {od__law_code an__law_code : Option Addr} {sl__law_code : Array (Option Value)} {oc__law_code kV__law_code dc__law_code pm__law_code cd__law_code ct__law_code : Value} (a__law_code : PySem.W.nsIn K mainGlobals "_law_code" = some (some (.ref f__law_code))) (l__law_code : K.lookup f__law_code = some ⟨oc__law_code, od__law_code, .func (PySem.W.fnOf "_law_code" "_law_code" (defArgs s__law_code) (defBody s__law_code) (defScope s__law_code) .none kV__law_code dc__law_code pm__law_code an__law_code cd__law_code ct__law_code), sl__law_code⟩) (c__law_code : PySem.W.codeIn K cd__law_code "_law_code" = true) (k__law_code : PySem.W.keepIn K (.ref f__law_code) = true)
    {f__law_with : Addr} {od__law_with an__law_with : Option Addr} {sl__law_with : Array (Option Value)} {oc__law_with kV__law_with dc__law_with pm__law_with cd__law_with ct__law_with : Value} (a__law_with : PySem.W.nsIn K mainGlobals "_law_with" = some (some (.ref f__law_with))) (l__law_with : K.lookup f__law_with = some ⟨oc__law_with, od__law_with, .func (PySem.W.fnOf "_law_with" "_law_with" (defArgs s__law_with) (defBody s__law_with) (defScope s__law_with) .none kV__law_with dc__law_with pm__law_with an__law_with cd__law_with ct__law_with), sl__law_with⟩) (c__law_with : PySem.W.codeIn K cd__law_with "_law_with" = true) (k__law_with : PySem.W.keepIn K (.ref f__law_with) = true)
    {f__law_faulty : Addr} {od__law_faulty an__law_faulty : Option Addr} {sl__law_faulty : Array (Option Value)} {oc__law_faulty kV__law_faulty dc__law_faulty pm__law_faulty cd__law_faulty ct__law_faulty : Value} (a__law_faulty : PySem.W.nsIn K mainGlobals "_law_faulty" = some (some (.ref f__law_faulty))) (l__law_faulty : K.lookup f__law_faulty = some ⟨oc__law_faulty, od__law_faulty, .func (PySem.W.fnOf "_law_faulty" "_law_faulty" (defArgs s__law_faulty) (defBody s__law_faulty) (defScope s__law_faulty) .none kV__law_faulty dc__law_faulty pm__law_faulty an__law_faulty cd__law_faulty ct__law_faulty), sl__law_faulty⟩) (c__law_faulty : PySem.W.codeIn K cd__law_faulty "_law_faulty" = true) (k__law_faulty : PySem.W.keepIn K (.ref f__law_faulty) = true)
    {f_law : Addr} {od_law an_law : Option Addr} {sl_law : Array (Option Value)} {oc_law kV_law dc_law pm_law cd_law ct_law : Value} (a_law : PySem.W.nsIn K mainGlobals "law" = some (some (.ref f_law))) (l_law : K.lookup f_law = some ⟨oc_law, od_law, .func (PySem.W.fnOf "law" "law" (defArgs s_law) (defBody s_law) (defScope s_law) .none kV_law dc_law pm_law an_law cd_law ct_law), sl_law⟩) (c_law : PySem.W.codeIn K cd_law "law" = true) (k_law : PySem.W.keepIn K (.ref f_law) = true)
    (z_abs : PySem.W.nsIn K mainGlobals "abs" = some none)
    (z_all : PySem.W.nsIn K mainGlobals "all" = some none)
    (z_bool : PySem.W.nsIn K mainGlobals "bool" = some none)
    (z_int : PySem.W.nsIn K mainGlobals "int" = some none)
    (z_isinstance : PySem.W.nsIn K mainGlobals "isinstance" = some none)
    (z_len : PySem.W.nsIn K mainGlobals "len" = some none)
    (z_list : PySem.W.nsIn K mainGlobals "list" = some none)
    (z_range : PySem.W.nsIn K mainGlobals "range" = some none)
    (z_sorted : PySem.W.nsIn K mainGlobals "sorted" = some none)
    (z_str : PySem.W.nsIn K mainGlobals "str" = some none)
    (z_tuple : PySem.W.nsIn K mainGlobals "tuple" = some none)
    (z_zip : PySem.W.nsIn K mainGlobals "zip" = some none)
    {t_CHARACTERS : Tok} (x_CHARACTERS : PySem.W.nsIn K mainGlobals "CHARACTERS" = some (some (.str c_CHARACTERS t_CHARACTERS)))
    {t_GREATEST : Tok} (x_GREATEST : PySem.W.nsIn K mainGlobals "GREATEST" = some (some (.int (999999999) t_GREATEST)))
    {t_LEAST : Tok} (x_LEAST : PySem.W.nsIn K mainGlobals "LEAST" = some (some (.int (-999999999) t_LEAST)))
    {t_LENGTH : Tok} (x_LENGTH : PySem.W.nsIn K mainGlobals "LENGTH" = some (some (.int (30) t_LENGTH)))
    {t_LETTERS : Tok} (x_LETTERS : PySem.W.nsIn K mainGlobals "LETTERS" = some (some (.str c_LETTERS t_LETTERS)))
    {t_MOST_ATOMS : Tok} (x_MOST_ATOMS : PySem.W.nsIn K mainGlobals "MOST_ATOMS" = some (some (.int (6) t_MOST_ATOMS)))
    {t_MOST_HEAD : Tok} (x_MOST_HEAD : PySem.W.nsIn K mainGlobals "MOST_HEAD" = some (some (.int (4) t_MOST_HEAD)))
    {C_QuestionError N_QuestionError fi_QuestionError : Addr} {nm_QuestionError q_QuestionError : Str} {bs_QuestionError bm_QuestionError sub_QuestionError : List Value} {sn_QuestionError : List Str} {ab_QuestionError : Bool} {col_QuestionError : Option Bool} {dd_QuestionError odi_QuestionError ani_QuestionError : Option Addr} {m0_QuestionError m1_QuestionError m2_QuestionError m3_QuestionError m5_QuestionError : Option Value} {sli_QuestionError : Array (Option Value)} {oci_QuestionError kVi_QuestionError dci_QuestionError pmi_QuestionError cdi_QuestionError cti_QuestionError : Value}
    (aC_QuestionError : PySem.W.nsIn K mainGlobals "QuestionError" = some (some (.ref C_QuestionError)))
    (xL_QuestionError : K.lookup C_QuestionError = some (excClassObj nm_QuestionError q_QuestionError C_QuestionError N_QuestionError bs_QuestionError bm_QuestionError true sn_QuestionError sub_QuestionError ab_QuestionError col_QuestionError dd_QuestionError m0_QuestionError m1_QuestionError m2_QuestionError m3_QuestionError m5_QuestionError "ValueError.__new__"))
    (rv_QuestionError : PySem.HandSPX.refsVE bm_QuestionError = true)
    (sa_QuestionError : PySem.W.findIn K (.ref C_QuestionError) "__setattr__" = some (some (.builtin "object.__setattr__")))
    (ga_QuestionError : PySem.W.findIn K (.ref C_QuestionError) "__getattribute__" = some (some (.builtin "BaseException.__getattribute__")))
    (gg_QuestionError : PySem.W.findIn K (.ref C_QuestionError) "__getattr__" = some none)
    (nf_QuestionError : PySem.W.findIn K (.ref C_QuestionError) "code" = some none)
    (a1_QuestionError : PySem.W.findIn K (.ref C_QuestionError) "__init__" = some (some (.ref fi_QuestionError)))
    (t1_QuestionError : PySem.W.typeIn K (.ref fi_QuestionError) = some (.type "function"))
    (l1_QuestionError : K.lookup fi_QuestionError = some ⟨oci_QuestionError, odi_QuestionError, .func (PySem.W.fnOf "__init__" "QuestionError.__init__" (defArgs s_ini_QuestionError) (defBody s_ini_QuestionError) (defScope s_ini_QuestionError) .none kVi_QuestionError dci_QuestionError pmi_QuestionError ani_QuestionError cdi_QuestionError cti_QuestionError), sli_QuestionError⟩)
    (c1_QuestionError : PySem.W.codeIn K cdi_QuestionError "QuestionError.__init__" = true)
    (k1_QuestionError : PySem.W.keepIn K (.ref fi_QuestionError) = true)
    (kC_QuestionError : PySem.W.keepIn K (.ref C_QuestionError) = true)
    (eC_QuestionError : PySem.W.subIn K (.ref C_QuestionError) (.type "BaseException") = some true)
    (tC_QuestionError : PySem.W.typeIn K (.ref C_QuestionError) = some (.type "type"))
    (hC_QuestionError : PySem.W.hasDictIn K C_QuestionError = true)
    (iC_QuestionError : PySem.W.isClsIn K C_QuestionError = true)
    (sC_QuestionError : PySem.W.subIn K (.ref C_QuestionError) (.ref C_QuestionError) = some true) :
    ∃ fd : FuncData, (∀ (s : Shared) (v : Value), BindsTo s fd ⟨[v], []⟩ [("script", v)]) ∧ ∀ base : Heap, K.In base → base.Ns mainGlobals mg → FnOk l.prog w K mg base (L2.CX l.prog w) 9 fa fd ["script"] (spLaw K) := by
  have e := hfa.symm.trans (PySem.W.mg_of X G a_law)
  cases e
  exact ⟨PySem.W.fnOf "law" "law" (defArgs s_law) (defBody s_law) (defScope s_law) .none kV_law dc_law pm_law an_law cd_law ct_law, fun s v => .of_eq rfl, fun base _ _ => ok_all ⟨PySem.W.mg_none_of X G z_abs, PySem.W.mg_none_of X G z_all, PySem.W.mg_none_of X G z_bool, PySem.W.mg_none_of X G z_int, PySem.W.mg_none_of X G z_isinstance, PySem.W.mg_none_of X G z_len, PySem.W.mg_none_of X G z_list, PySem.W.mg_none_of X G z_range, PySem.W.mg_none_of X G z_sorted, PySem.W.mg_none_of X G z_str, PySem.W.mg_none_of X G z_tuple, PySem.W.mg_none_of X G z_zip, ⟨_, PySem.W.mg_of X G x_CHARACTERS⟩, ⟨_, PySem.W.mg_of X G x_GREATEST⟩, ⟨_, PySem.W.mg_of X G x_LEAST⟩, ⟨_, PySem.W.mg_of X G x_LENGTH⟩, ⟨_, PySem.W.mg_of X G x_LETTERS⟩, ⟨_, PySem.W.mg_of X G x_MOST_ATOMS⟩, ⟨_, PySem.W.mg_of X G x_MOST_HEAD⟩, ⟨⟨C_QuestionError, fi_QuestionError, PySem.W.fnOf "__init__" "QuestionError.__init__" (defArgs s_ini_QuestionError) (defBody s_ini_QuestionError) (defScope s_ini_QuestionError) .none kVi_QuestionError dci_QuestionError pmi_QuestionError ani_QuestionError cdi_QuestionError cti_QuestionError, ["self", "code"], PySem.W.mg_of X G aC_QuestionError, ⟨⟨nm_QuestionError, q_QuestionError, N_QuestionError, bs_QuestionError, bm_QuestionError, sn_QuestionError, sub_QuestionError, ab_QuestionError, col_QuestionError, dd_QuestionError, m0_QuestionError, m1_QuestionError, m2_QuestionError, m3_QuestionError, m5_QuestionError, xL_QuestionError, rv_QuestionError⟩, sa_QuestionError, eC_QuestionError, tC_QuestionError, kC_QuestionError⟩, a1_QuestionError, t1_QuestionError, ini_QuestionError (fun_mk l1_QuestionError c1_QuestionError k1_QuestionError), (fun_mk (st := s_ini_QuestionError) l1_QuestionError c1_QuestionError k1_QuestionError).binds (ps := ["self", "code"]) (fun _ _ _ _ _ _ us hl => match us, hl with | [_, _], _ => rfl), nf_QuestionError, ⟨ga_QuestionError, gg_QuestionError, eC_QuestionError, hC_QuestionError⟩, exm_own eC_QuestionError iC_QuestionError tC_QuestionError sC_QuestionError⟩⟩⟩ (fun_mk (st := s_is_integer) l_is_integer c_is_integer k_is_integer) (PySem.W.mg_of X G a_is_integer) (fun_mk (st := s_is_plain_text) l_is_plain_text c_is_plain_text k_is_plain_text) (PySem.W.mg_of X G a_is_plain_text) (fun_mk (st := s_is_value) l_is_value c_is_value k_is_value) (PySem.W.mg_of X G a_is_value) (fun_mk (st := s_kind_of) l_kind_of c_kind_of k_kind_of) (PySem.W.mg_of X G a_kind_of) (fun_mk (st := s_fits_column) l_fits_column c_fits_column k_fits_column) (PySem.W.mg_of X G a_fits_column) (fun_mk (st := s_is_variable_name) l_is_variable_name c_is_variable_name k_is_variable_name) (PySem.W.mg_of X G a_is_variable_name) (fun_mk (st := s_term_fits) l_term_fits c_term_fits k_term_fits) (PySem.W.mg_of X G a_term_fits) (fun_mk (st := s_terms_fit) l_terms_fit c_terms_fit k_terms_fit) (PySem.W.mg_of X G a_terms_fit) (fun_mk (st := s_kinds_of) l_kinds_of c_kinds_of k_kinds_of) (PySem.W.mg_of X G a_kinds_of) (fun_mk (st := s_check_question) l_check_question c_check_question k_check_question) (PySem.W.mg_of X G a_check_question) (fun_mk (st := s_rows_for) l_rows_for c_rows_for k_rows_for) (PySem.W.mg_of X G a_rows_for) (fun_mk (st := s_all_valuations) l_all_valuations c_all_valuations k_all_valuations) (PySem.W.mg_of X G a_all_valuations) (fun_mk (st := s_plain_answer) l_plain_answer c_plain_answer k_plain_answer) (PySem.W.mg_of X G a_plain_answer) (fun_mk (st := s__law_tape) l__law_tape c__law_tape k__law_tape) (PySem.W.mg_of X G a__law_tape) (fun_mk (st := s__law_take) l__law_take c__law_take k__law_take) (PySem.W.mg_of X G a__law_take) (fun_mk (st := s__law_small) l__law_small c__law_small k__law_small) (PySem.W.mg_of X G a__law_small) (fun_mk (st := s__law_plain_schema) l__law_plain_schema c__law_plain_schema k__law_plain_schema) (PySem.W.mg_of X G a__law_plain_schema) (fun_mk (st := s__law_term) l__law_term c__law_term k__law_term) (PySem.W.mg_of X G a__law_term) (fun_mk (st := s__law_question) l__law_question c__law_question k__law_question) (PySem.W.mg_of X G a__law_question) (fun_mk (st := s__law_empty) l__law_empty c__law_empty k__law_empty) (PySem.W.mg_of X G a__law_empty) (fun_mk (st := s__law_code) l__law_code c__law_code k__law_code) (PySem.W.mg_of X G a__law_code) (fun_mk (st := s__law_with) l__law_with c__law_with k__law_with) (PySem.W.mg_of X G a__law_with) (fun_mk (st := s__law_faulty) l__law_faulty c__law_faulty k__law_faulty) (PySem.W.mg_of X G a__law_faulty) (fun_mk (st := s_law) l_law c_law k_law) (PySem.W.mg_of X G a_law)⟩
end K67
set_option Elab.async false
set_option maxRecDepth 100000
open PySem PySem.W PyProof.Rows
set_option maxHeartbeats 0 in
theorem PySem.Challenge.cw_versionhouse_k67_plain_questions_refused_holds : PySem.Challenge.rw_versionhouse_k67_plain_questions_refused.Holds := by
  w_on; o_law; k_head; (case hw => w_witness2)
  k_fill
  refine L2.walk_of (l := PySem.Challenge.rw_versionhouse_k67_plain_questions_refused) (n := 63) (k := 9) (x := "script") (CX := fun w => L2.CX PySem.Challenge.pw_versionhouse_k67_plain_questions_refused w) (sp := fun w => K67.spLaw _) rfl (by decide) rfl ⟨rfl, by decide, by decide⟩ (fun w h Y => PySem.W.kIn_of Y) ?F (fun _ _ a ns hl _ hS => ⟨a, ns, rfl, hS, fun _ => rfl⟩) (fun _ _ _ _ _ h => VH.cx_none h)
  case F =>
    intro w mg fa h KX G hmg
    refine' K67.all_mk KX G hmg ?a_is_integer ?l_is_integer ?c_is_integer ?k_is_integer ?a_is_plain_text ?l_is_plain_text ?c_is_plain_text ?k_is_plain_text ?a_is_value ?l_is_value ?c_is_value ?k_is_value ?a_kind_of ?l_kind_of ?c_kind_of ?k_kind_of ?a_fits_column ?l_fits_column ?c_fits_column ?k_fits_column ?a_is_variable_name ?l_is_variable_name ?c_is_variable_name ?k_is_variable_name ?a_term_fits ?l_term_fits ?c_term_fits ?k_term_fits ?a_terms_fit ?l_terms_fit ?c_terms_fit ?k_terms_fit ?a_kinds_of ?l_kinds_of ?c_kinds_of ?k_kinds_of ?a_check_question ?l_check_question ?c_check_question ?k_check_question ?a_rows_for ?l_rows_for ?c_rows_for ?k_rows_for ?a_all_valuations ?l_all_valuations ?c_all_valuations ?k_all_valuations ?a_plain_answer ?l_plain_answer ?c_plain_answer ?k_plain_answer ?a__law_tape ?l__law_tape ?c__law_tape ?k__law_tape ?a__law_take ?l__law_take ?c__law_take ?k__law_take ?a__law_small ?l__law_small ?c__law_small ?k__law_small ?a__law_plain_schema ?l__law_plain_schema ?c__law_plain_schema ?k__law_plain_schema ?a__law_term ?l__law_term ?c__law_term ?k__law_term ?a__law_question ?l__law_question ?c__law_question ?k__law_question ?a__law_empty ?l__law_empty ?c__law_empty ?k__law_empty ?a__law_code ?l__law_code ?c__law_code ?k__law_code ?a__law_with ?l__law_with ?c__law_with ?k__law_with ?a__law_faulty ?l__law_faulty ?c__law_faulty ?k__law_faulty ?a_law ?l_law ?c_law ?k_law ?z_abs ?z_all ?z_bool ?z_int ?z_isinstance ?z_len ?z_list ?z_range ?z_sorted ?z_str ?z_tuple ?z_zip ?x_CHARACTERS ?x_GREATEST ?x_LEAST ?x_LENGTH ?x_LETTERS ?x_MOST_ATOMS ?x_MOST_HEAD ?aC_QuestionError ?xL_QuestionError ?rv_QuestionError ?sa_QuestionError ?ga_QuestionError ?gg_QuestionError ?nf_QuestionError ?a1_QuestionError ?t1_QuestionError ?l1_QuestionError ?c1_QuestionError ?k1_QuestionError ?kC_QuestionError ?eC_QuestionError ?tC_QuestionError ?hC_QuestionError ?iC_QuestionError ?sC_QuestionError
    (case a_is_integer => k_is); (case l_is_integer => k_is); (case c_is_integer => k_is); (case k_is_integer => k_is); (case a_is_plain_text => k_is); (case l_is_plain_text => k_is); (case c_is_plain_text => k_is); (case k_is_plain_text => k_is); (case a_is_value => k_is); (case l_is_value => k_is); (case c_is_value => k_is); (case k_is_value => k_is); (case a_kind_of => k_is); (case l_kind_of => k_is); (case c_kind_of => k_is); (case k_kind_of => k_is); (case a_fits_column => k_is); (case l_fits_column => k_is); (case c_fits_column => k_is); (case k_fits_column => k_is); (case a_is_variable_name => k_is); (case l_is_variable_name => k_is); (case c_is_variable_name => k_is); (case k_is_variable_name => k_is); (case a_term_fits => k_is); (case l_term_fits => k_is); (case c_term_fits => k_is); (case k_term_fits => k_is); (case a_terms_fit => k_is); (case l_terms_fit => k_is); (case c_terms_fit => k_is); (case k_terms_fit => k_is); (case a_kinds_of => k_is); (case l_kinds_of => k_is); (case c_kinds_of => k_is); (case k_kinds_of => k_is); (case a_check_question => k_is); (case l_check_question => k_is); (case c_check_question => k_is); (case k_check_question => k_is); (case a_rows_for => k_is); (case l_rows_for => k_is); (case c_rows_for => k_is); (case k_rows_for => k_is); (case a_all_valuations => k_is); (case l_all_valuations => k_is); (case c_all_valuations => k_is); (case k_all_valuations => k_is); (case a_plain_answer => k_is); (case l_plain_answer => k_is); (case c_plain_answer => k_is); (case k_plain_answer => k_is); (case a__law_tape => k_is); (case l__law_tape => k_is); (case c__law_tape => k_is); (case k__law_tape => k_is); (case a__law_take => k_is); (case l__law_take => k_is); (case c__law_take => k_is); (case k__law_take => k_is); (case a__law_small => k_is); (case l__law_small => k_is); (case c__law_small => k_is); (case k__law_small => k_is); (case a__law_plain_schema => k_is); (case l__law_plain_schema => k_is); (case c__law_plain_schema => k_is); (case k__law_plain_schema => k_is); (case a__law_term => k_is); (case l__law_term => k_is); (case c__law_term => k_is); (case k__law_term => k_is); (case a__law_question => k_is); (case l__law_question => k_is); (case c__law_question => k_is); (case k__law_question => k_is); (case a__law_empty => k_is); (case l__law_empty => k_is); (case c__law_empty => k_is); (case k__law_empty => k_is); (case a__law_code => k_is); (case l__law_code => k_is); (case c__law_code => k_is); (case k__law_code => k_is); (case a__law_with => k_is); (case l__law_with => k_is); (case c__law_with => k_is); (case k__law_with => k_is); (case a__law_faulty => k_is); (case l__law_faulty => k_is); (case c__law_faulty => k_is); (case k__law_faulty => k_is); (case a_law => k_is); (case l_law => k_is); (case c_law => k_is); (case k_law => k_is); (case z_abs => k_is); (case z_all => k_is); (case z_bool => k_is); (case z_int => k_is); (case z_isinstance => k_is); (case z_len => k_is); (case z_list => k_is); (case z_range => k_is); (case z_sorted => k_is); (case z_str => k_is); (case z_tuple => k_is); (case z_zip => k_is); (case x_CHARACTERS => k_is); (case x_GREATEST => k_is); (case x_LEAST => k_is); (case x_LENGTH => k_is); (case x_LETTERS => k_is); (case x_MOST_ATOMS => k_is); (case x_MOST_HEAD => k_is); (case aC_QuestionError => k_is); (case xL_QuestionError => k_is); (case rv_QuestionError => first | decide +kernel | k_is); (case sa_QuestionError => k_is); (case ga_QuestionError => k_is); (case gg_QuestionError => k_is); (case nf_QuestionError => k_is); (case a1_QuestionError => k_is); (case t1_QuestionError => k_is); (case l1_QuestionError => k_is); (case c1_QuestionError => k_is); (case k1_QuestionError => k_is); (case kC_QuestionError => k_is); (case eC_QuestionError => k_is); (case tC_QuestionError => k_is); (case hC_QuestionError => k_is); (case iC_QuestionError => k_is); (case sC_QuestionError => first | rfl | k_is)
