import PyProof.Rows.All
import Wide.All
import OpenK.AllK
import Wide.FinOn
import HandS.ForMost
import HandS.ForExc
import HandS.CallSlots
import HandS.Wide
import HandS.TupAny
import HandS.Strs
import HandS.IsInst
import HandS.Style
import KE.GoesEnum
import HandS.Zip
import PySem.Challenge.RW_versionhouse_k86_sealed_logs
set_option Elab.async false
set_option linter.all false
set_option maxRecDepth 100000
set_option maxHeartbeats 4000000
namespace VH
open PySem PySem.Spec PyProof.Rows L2

abbrev D := PyData
abbrev FA := Addr → Prop
def kD : Key → D
  | .inl i => .int i
  | .inr x => .str x
def FL (H : Hp) (F : FA) (a : Addr) (xs : List V) : Prop := F a ∧ H a = some (.lst xs)
def FT (K : PySem.W.Frag) (H : Hp) (F : FA) (a : Addr) (xs : List V) : Prop := (F a ∧ H a = some (.tup xs)) ∨ SqT K (fun _ => none) a xs
def FK (H : Hp) (F : FA) (a : Addr) (kvs : List (Key × V)) : Prop := F a ∧ Rd H a (.dK kvs)
mutual
inductive Rep (K : PySem.W.Frag) (H : Hp) (F : FA) : V → D → Prop
  | non : Rep K H F .non .none
  | bl (b : Bool) : Rep K H F (.bl b) (.bool b)
  | int (i : Int) : Rep K H F (.int i) (.int i)
  | str (x : Str) : Rep K H F (.str x) (.str x)
  | lst {a : Addr} {xs : List V} {ds : List D} : FL H F a xs → RepA K H F xs ds → Rep K H F (.ref a) (.list ds)
  | tup {a : Addr} {xs : List V} {ds : List D} : FT K H F a xs → RepA K H F xs ds → Rep K H F (.ref a) (.tuple ds)
  | dic {a : Addr} {kvs : List (Key × V)} {ds : List (D × D)} : FK H F a kvs → RepK K H F kvs ds → Rep K H F (.ref a) (.dict ds)
inductive RepA (K : PySem.W.Frag) (H : Hp) (F : FA) : List V → List D → Prop
  | nil : RepA K H F [] []
  | cons {v : V} {d : D} {vs : List V} {ds : List D} : Rep K H F v d → RepA K H F vs ds → RepA K H F (v :: vs) (d :: ds)
inductive RepK (K : PySem.W.Frag) (H : Hp) (F : FA) : List (Key × V) → List (D × D) → Prop
  | nil : RepK K H F [] []
  | cons {k : Key} {v : V} {d : D} {vs : List (Key × V)} {ds : List (D × D)} : Rep K H F v d → RepK K H F vs ds → RepK K H F ((k, v) :: vs) ((kD k, d) :: ds)
end
/-- the frozen part is the same, but for locks -/
structure Stb (H : Hp) (F : FA) (H' : Hp) (F' : FA) : Prop where
  un : ∀ a u, F a → H a = some u → (∀ o w, u ≠ .frz o w) → (∀ kvs, u ≠ .dK kvs) → H' a = some u
  rd : ∀ a u, F a → Rd H a u → Rd H' a u
  fz : ∀ a, F a → F' a
mutual
theorem Rep.mono {K : PySem.W.Frag} {H H' : Hp} {F F' : FA} (s : Stb H F H' F') : ∀ {v : V} {d : D}, Rep K H F v d → Rep K H' F' v d
  | _, _, .non => .non
  | _, _, .bl b => .bl b
  | _, _, .int i => .int i
  | _, _, .str x => .str x
  | _, _, .lst ⟨f, e⟩ r => .lst ⟨s.fz _ f, s.un _ _ f e (fun _ _ q => nomatch q) fun _ q => nomatch q⟩ (RepA.mono s r)
  | _, _, .tup (.inl ⟨f, e⟩) r => .tup (.inl ⟨s.fz _ f, s.un _ _ f e (fun _ _ q => nomatch q) fun _ q => nomatch q⟩) (RepA.mono s r)
  | _, _, .tup (.inr q) r => .tup (.inr q) (RepA.mono s r)
  | _, _, .dic ⟨f, e⟩ r => .dic ⟨s.fz _ f, s.rd _ _ f e⟩ (RepK.mono s r)
theorem RepA.mono {K : PySem.W.Frag} {H H' : Hp} {F F' : FA} (s : Stb H F H' F') : ∀ {v : List V} {d : List D}, RepA K H F v d → RepA K H' F' v d
  | _, _, .nil => .nil
  | _, _, .cons h t => .cons (Rep.mono s h) (RepA.mono s t)
theorem RepK.mono {K : PySem.W.Frag} {H H' : Hp} {F F' : FA} (s : Stb H F H' F') : ∀ {v : List (Key × V)} {d : List (D × D)}, RepK K H F v d → RepK K H' F' v d
  | _, _, .nil => .nil
  | _, _, .cons h t => .cons (Rep.mono s h) (RepK.mono s t)
end
theorem FT.sq {K : PySem.W.Frag} {H : Hp} {F : FA} {a : Addr} {xs : List V} (h : FT K H F a xs) : SqT K H a xs := by
  rcases h with ⟨_, h⟩ | h
  · exact .inl (.inl h)
  · rcases h with (h | ⟨o, h⟩) | h
    · cases h
    · cases h
    · exact .inr h
theorem FL.sq {K : PySem.W.Frag} {H : Hp} {F : FA} {a : Addr} {xs : List V} (h : FL H F a xs) : SqL K H a xs := .inl (.inl h.2)
theorem RepA.length {K : PySem.W.Frag} {H : Hp} {F : FA} : ∀ {vs : List V} {ds : List D}, RepA K H F vs ds → vs.length = ds.length
  | _, _, .nil => rfl
  | _, _, .cons _ t => by rw [List.length_cons, List.length_cons, RepA.length t]
theorem RepA.get {K : PySem.W.Frag} {H : Hp} {F : FA} : ∀ {vs : List V} {ds : List D} {i : Nat} {d : D}, RepA K H F vs ds → ds[i]? = some d → ∃ v, vs[i]? = some v ∧ Rep K H F v d
  | _, _, _, _, .nil, e => by simp at e
  | _, _, 0, _, .cons h _, e => by simp at e; subst e; exact ⟨_, rfl, h⟩
  | _, _, i + 1, _, .cons _ t, e => by
    obtain ⟨v, e1, r⟩ := RepA.get (i := i) t (by simpa using e)
    exact ⟨v, by simpa using e1, r⟩
theorem RepA.got {K : PySem.W.Frag} {H : Hp} {F : FA} : ∀ {vs : List V} {ds : List D} {i : Nat} {v : V}, RepA K H F vs ds → vs[i]? = some v → ∃ d, ds[i]? = some d ∧ Rep K H F v d
  | _, _, _, _, .nil, e => by simp at e
  | _, _, 0, _, .cons h _, e => by simp at e; subst e; exact ⟨_, rfl, h⟩
  | _, _, i + 1, _, .cons _ t, e => by
    obtain ⟨v, e1, r⟩ := RepA.got (i := i) t (by simpa using e)
    exact ⟨v, by simpa using e1, r⟩
theorem RepA.append {K : PySem.W.Frag} {H : Hp} {F : FA} : ∀ {vs ws : List V} {ds es : List D}, RepA K H F vs ds → RepA K H F ws es → RepA K H F (vs ++ ws) (ds ++ es)
  | _, _, _, _, .nil, h => h
  | _, _, _, _, .cons h t, q => .cons h (RepA.append t q)
theorem RepA.take {K : PySem.W.Frag} {H : Hp} {F : FA} : ∀ {vs : List V} {ds : List D} (n : Nat), RepA K H F vs ds → RepA K H F (vs.take n) (ds.take n)
  | _, _, 0, _ => .nil
  | _, _, _ + 1, .nil => .nil
  | _, _, n + 1, .cons h t => .cons h (RepA.take n t)
theorem RepA.drop {K : PySem.W.Frag} {H : Hp} {F : FA} : ∀ {vs : List V} {ds : List D} (n : Nat), RepA K H F vs ds → RepA K H F (vs.drop n) (ds.drop n)
  | _, _, 0, r => r
  | _, _, _ + 1, .nil => .nil
  | _, _, n + 1, .cons _ t => RepA.drop n t

/-! ### what a frame's slot owns -/
inductive O where
  | sh (d : D)
  | lst (xs : List D)
  | dic (kvs : List (Key × O))
  | scr (ns : List Int)
mutual
def fz : O → D
  | .sh d => d
  | .lst xs => .list xs
  | .dic kvs => .dict (fzK kvs)
  | .scr ns => .list (ns.map .int)
def fzK : List (Key × O) → List (D × D)
  | [] => []
  | (k, o) :: r => (kD k, fz o) :: fzK r
end
/-- may it be frozen? -/
def O.isScr : O → Bool
  | .scr _ => true
  | _ => false
mutual
inductive RO (K : PySem.W.Frag) (H : Hp) (F : FA) : V → O → List Addr → Prop
  | sh {v : V} {d : D} : Rep K H F v d → RO K H F v (.sh d) []
  | lst {a : Addr} {xs : List V} {ds : List D} : H a = some (.lst xs) → ¬ F a → RepA K H F xs ds → RO K H F (.ref a) (.lst ds) [a]
  | dic {a : Addr} {kvs : List (Key × V)} {os : List (Key × O)} {fp : List Addr} : H a = some (.dK kvs) → ¬ F a → ROk K H F kvs os fp → a ∉ fp → RO K H F (.ref a) (.dic os) (a :: fp)
  | scr {a : Addr} {ns : List Int} : ((F a ∧ Rd H a (.lst (ns.map V.int))) ∨ SqL K (fun _ => none) a (ns.map V.int)) → RO K H F (.ref a) (.scr ns) []
inductive ROk (K : PySem.W.Frag) (H : Hp) (F : FA) : List (Key × V) → List (Key × O) → List Addr → Prop
  | nil : ROk K H F [] [] []
  | cons {k : Key} {v : V} {o : O} {vs : List (Key × V)} {os : List (Key × O)} {f1 f2 : List Addr} : RO K H F v o f1 → ROk K H F vs os f2 → (∀ a ∈ f1, a ∉ f2) → ROk K H F ((k, v) :: vs) ((k, o) :: os) (f1 ++ f2)
end
mutual
theorem RO.trk {K : PySem.W.Frag} {H : Hp} {F : FA} : ∀ {v : V} {o : O} {fp : List Addr}, RO K H F v o fp → ∀ a ∈ fp, (∃ u, H a = some u) ∧ ¬ F a
  | _, _, _, .sh _ => fun _ h => nomatch h
  | _, _, _, .lst e f _ => fun b h => by
    rcases List.mem_singleton.mp h with rfl
    exact ⟨⟨_, e⟩, f⟩
  | _, _, _, .dic e f r _ => fun b h => by
    rcases List.mem_cons.mp h with rfl | h
    · exact ⟨⟨_, e⟩, f⟩
    · exact ROk.trk r b h
  | _, _, _, .scr _ => fun _ h => nomatch h
theorem ROk.trk {K : PySem.W.Frag} {H : Hp} {F : FA} : ∀ {v : List (Key × V)} {o : List (Key × O)} {fp : List Addr}, ROk K H F v o fp → ∀ a ∈ fp, (∃ u, H a = some u) ∧ ¬ F a
  | _, _, _, .nil => fun _ h => nomatch h
  | _, _, _, .cons h t _ => fun b q => by
    rcases List.mem_append.mp q with q | q
    · exact RO.trk h b q
    · exact ROk.trk t b q
end
/-- the addresses at fp are as they were -/
def Sm (fp : List Addr) (H : Hp) (F : FA) (H' : Hp) (F' : FA) : Prop := ∀ a ∈ fp, H' a = H a ∧ (F' a → F a)
theorem Sm.app {f g : List Addr} {H H' : Hp} {F F' : FA} (h : Sm (f ++ g) H F H' F') : Sm f H F H' F' ∧ Sm g H F H' F' :=
  ⟨fun a q => h a (List.mem_append_left _ q), fun a q => h a (List.mem_append_right _ q)⟩
mutual
theorem RO.mono {K : PySem.W.Frag} {H H' : Hp} {F F' : FA} (s : Stb H F H' F') : ∀ {v : V} {o : O} {fp : List Addr}, RO K H F v o fp → Sm fp H F H' F' → RO K H' F' v o fp
  | _, _, _, .sh r, _ => .sh (r.mono s)
  | _, _, _, .lst e f r, k => .lst ((k _ (List.mem_singleton.mpr rfl)).1.trans e) (fun q => f ((k _ (List.mem_singleton.mpr rfl)).2 q)) (r.mono s)
  | _, _, _, .dic e f r n, k => .dic ((k _ List.mem_cons_self).1.trans e) (fun q => f ((k _ List.mem_cons_self).2 q)) (ROk.mono s r fun a q => k a (List.mem_cons_of_mem _ q)) n
  | _, _, _, .scr (.inl ⟨f, q⟩), _ => .scr (.inl ⟨s.fz _ f, s.rd _ _ f q⟩)
  | _, _, _, .scr (.inr q), _ => .scr (.inr q)
theorem ROk.mono {K : PySem.W.Frag} {H H' : Hp} {F F' : FA} (s : Stb H F H' F') : ∀ {v : List (Key × V)} {o : List (Key × O)} {fp : List Addr}, ROk K H F v o fp → Sm fp H F H' F' → ROk K H' F' v o fp
  | _, _, _, .nil, _ => .nil
  | _, _, _, .cons h t d, k => .cons (RO.mono s h k.app.1) (ROk.mono s t k.app.2) d
end
mutual
/-- no script within -/
def O.fzb : O → Bool
  | .sh _ => true
  | .lst _ => true
  | .dic kvs => O.fzbK kvs
  | .scr _ => false
def O.fzbK : List (Key × O) → Bool
  | [] => true
  | (_, o) :: r => o.fzb && O.fzbK r
end
mutual
theorem RO.freeze {K : PySem.W.Frag} {H : Hp} {F F' : FA} (hF : ∀ a, F a → F' a) : ∀ {v : V} {o : O} {fp : List Addr}, RO K H F v o fp → (∀ a ∈ fp, F' a) → o.fzb = true → Rep K H F' v (fz o)
  | _, _, _, .sh r, _, _ => r.mono ⟨fun _ _ _ h _ _ => h, fun _ _ _ h => h, hF⟩
  | _, _, _, .lst e f r, k, _ => .lst ⟨k _ (List.mem_singleton.mpr rfl), e⟩ (r.mono ⟨fun _ _ _ h _ _ => h, fun _ _ _ h => h, hF⟩)
  | _, _, _, .dic e f r n, k, b => .dic ⟨k _ List.mem_cons_self, .inl e⟩ (ROk.freeze hF r (fun a q => k a (List.mem_cons_of_mem _ q)) b)
  | _, _, _, .scr _, _, b => by cases b
theorem ROk.freeze {K : PySem.W.Frag} {H : Hp} {F F' : FA} (hF : ∀ a, F a → F' a) : ∀ {v : List (Key × V)} {o : List (Key × O)} {fp : List Addr}, ROk K H F v o fp → (∀ a ∈ fp, F' a) → O.fzbK o = true → RepK K H F' v (fzK o)
  | _, _, _, .nil, _, _ => .nil
  | _, _, _, .cons h t d, k, b => by
    have b' := Bool.and_eq_true_iff.mp b
    exact .cons (RO.freeze hF h (fun a q => k a (List.mem_append_left _ q)) b'.1) (ROk.freeze hF t (fun a q => k a (List.mem_append_right _ q)) b'.2)
end

/-! ### environments -/
abbrev En := List (Option O)
abbrev Sg := List (Option V)
inductive RS (K : PySem.W.Frag) (H : Hp) (F : FA) : Option V → Option O → List Addr → Prop
  | no {v : Option V} : RS K H F v none []
  | yes {v : V} {o : O} {f : List Addr} : RO K H F v o f → RS K H F (some v) (some o) f
inductive REnv (K : PySem.W.Frag) (H : Hp) (F : FA) : Sg → En → List Addr → Prop
  | nil : REnv K H F [] [] []
  | cons {v : Option V} {o : Option O} {σ : Sg} {env : En} {f1 f2 : List Addr} : RS K H F v o f1 → REnv K H F σ env f2 → (∀ a ∈ f1, a ∉ f2) → REnv K H F (v :: σ) (o :: env) (f1 ++ f2)
theorem RS.mono {K : PySem.W.Frag} {H H' : Hp} {F F' : FA} (s : Stb H F H' F') {v : Option V} {o : Option O} {fp : List Addr} (h : RS K H F v o fp) (k : Sm fp H F H' F') : RS K H' F' v o fp := by
  cases h with
  | no => exact .no
  | yes r => exact .yes (r.mono s k)
theorem RS.trk {K : PySem.W.Frag} {H : Hp} {F : FA} {v : Option V} {o : Option O} {fp : List Addr} (h : RS K H F v o fp) : ∀ a ∈ fp, (∃ u, H a = some u) ∧ ¬ F a := by
  cases h with
  | no => exact fun _ q => nomatch q
  | yes r => exact r.trk
theorem REnv.trk {K : PySem.W.Frag} {H : Hp} {F : FA} : ∀ {σ : Sg} {env : En} {fp : List Addr}, REnv K H F σ env fp → ∀ a ∈ fp, (∃ u, H a = some u) ∧ ¬ F a
  | _, _, _, .nil => fun _ h => nomatch h
  | _, _, _, .cons h t _ => fun b q => by
    rcases List.mem_append.mp q with q | q
    · exact h.trk b q
    · exact REnv.trk t b q
theorem REnv.mono {K : PySem.W.Frag} {H H' : Hp} {F F' : FA} (s : Stb H F H' F') : ∀ {σ : Sg} {env : En} {fp : List Addr}, REnv K H F σ env fp → Sm fp H F H' F' → REnv K H' F' σ env fp
  | _, _, _, .nil, _ => .nil
  | _, _, _, .cons h t d, k => .cons (h.mono s k.app.1) (REnv.mono s t k.app.2) d
theorem REnv.length {K : PySem.W.Frag} {H : Hp} {F : FA} : ∀ {σ : Sg} {env : En} {fp : List Addr}, REnv K H F σ env fp → σ.length = env.length
  | _, _, _, .nil => rfl
  | _, _, _, .cons _ t _ => by rw [List.length_cons, List.length_cons, REnv.length t]
/-- slot i apart; what comes in its place -/
theorem REnv.split {K : PySem.W.Frag} {H : Hp} {F : FA} : ∀ {σ : Sg} {env : En} {fp : List Addr} (i : Nat), REnv K H F σ env fp → i < env.length →
    ∃ v o f1 fr, σ[i]? = some v ∧ env[i]? = some o ∧ RS K H F v o f1 ∧ (∀ a, a ∈ fp ↔ a ∈ f1 ∨ a ∈ fr) ∧ (∀ a ∈ f1, a ∉ fr) ∧
      ∀ (H' : Hp) (F' : FA) (v' : Option V) (o' : Option O) (f1' : List Addr), Stb H F H' F' → Sm fr H F H' F' → RS K H' F' v' o' f1' → (∀ a ∈ f1', a ∉ fr) →
        ∃ fp', REnv K H' F' (σ.set i v') (env.set i o') fp' ∧ ∀ a, a ∈ fp' ↔ a ∈ f1' ∨ a ∈ fr
  | _, _, _, i, .nil, h => absurd h (by simp)
  | _, _, _, 0, .cons (f1 := f1) (f2 := f2) h t d, _ => ⟨_, _, f1, f2, rfl, rfl, h, fun a => List.mem_append, d, fun H' F' v' o' f1' s k r d' =>
      ⟨f1' ++ f2, .cons r (t.mono s k) d', fun a => List.mem_append⟩⟩
  | _, _, _, i + 1, .cons (v := w) (o := ow) (f1 := g1) (f2 := g2) h t d, hi => by
    obtain ⟨v, o, f1, fr, e1, e2, r, hm, hd, hk⟩ := REnv.split i t (by simpa using hi)
    refine ⟨v, o, f1, g1 ++ fr, by simpa using e1, by simpa using e2, r, fun a => ?_, fun a q q' => ?_, fun H' F' v' o' f1' s k r' d' => ?_⟩
    · rw [List.mem_append, List.mem_append, hm]
      constructor
      · rintro (q | q | q)
        · exact .inr (.inl q)
        · exact .inl q
        · exact .inr (.inr q)
      · rintro (q | q | q)
        · exact .inr (.inl q)
        · exact .inl q
        · exact .inr (.inr q)
    · rcases List.mem_append.mp q' with q' | q'
      · exact d a q' ((hm a).mpr (.inl q))
      · exact hd a q q'
    · obtain ⟨fp', re, hm'⟩ := hk H' F' v' o' f1' s k.app.2 r' fun a q q' => d' a q (List.mem_append_right _ q')
      refine ⟨g1 ++ fp', .cons (h.mono s k.app.1) re fun a q q' => ?_, fun a => ?_⟩
      · rcases (hm' a).mp q' with z | z
        · exact d' a z (List.mem_append_left _ q)
        · exact d a q ((hm a).mpr (.inr z))
      · rw [List.mem_append, List.mem_append, hm']
        constructor
        · rintro (q | q | q)
          · exact .inr (.inl q)
          · exact .inl q
          · exact .inr (.inr q)
        · rintro (q | q | q)
          · exact .inr (.inl q)
          · exact .inl q
          · exact .inr (.inr q)

/-! ### transitions -/
structure Tr (fp : List Addr) (H : Hp) (F : FA) (H' : Hp) (F' : FA) (fp' : List Addr) : Prop where
  keep : ∀ a u, H a = some u → a ∉ fp → H' a = some u ∧ (F' a → F a)
  froz : ∀ a, F a → F' a
  new : ∀ a ∈ fp', a ∈ fp ∨ H a = none
theorem Tr.refl {fp : List Addr} {H : Hp} {F : FA} : Tr fp H F H F fp := ⟨fun _ _ h _ => ⟨h, fun f => f⟩, fun _ h => h, fun _ h => .inl h⟩
theorem Tr.trans {fp fp1 fp2 : List Addr} {H H1 H2 : Hp} {F F1 F2 : FA} (a : Tr fp H F H1 F1 fp1) (b : Tr fp1 H1 F1 H2 F2 fp2) : Tr fp H F H2 F2 fp2 where
  keep := fun x u h n => by
    obtain ⟨h1, f1⟩ := a.keep x u h n
    obtain ⟨h2, f2⟩ := b.keep x u h1 fun q => (a.new x q).elim n fun z => by rw [h] at z; cases z
    exact ⟨h2, fun q => f1 (f2 q)⟩
  froz := fun x h => b.froz x (a.froz x h)
  new := fun x h => by
    rcases b.new x h with q | q
    · exact a.new x q
    · cases e : H x with
      | none => exact .inr rfl
      | some u =>
        by_cases n : x ∈ fp
        · exact .inl n
        · rw [(a.keep x u e n).1] at q; cases q
theorem Tr.stb {fp fp' : List Addr} {H H' : Hp} {F F' : FA} (t : Tr fp H F H' F' fp') (h : ∀ a ∈ fp, ¬ F a) : Stb H F H' F' where
  un := fun a u f e _ _ => (t.keep a u e fun q => h a q f).1
  rd := fun a u f e => by
    rcases e with e | ⟨o, e⟩
    · exact .inl (t.keep a _ e fun q => h a q f).1
    · exact .inr ⟨o, (t.keep a _ e fun q => h a q f).1⟩
  fz := t.froz
theorem REnv.nf {K : PySem.W.Frag} {H : Hp} {F : FA} {σ : Sg} {env : En} {fp : List Addr} (r : REnv K H F σ env fp) : ∀ a ∈ fp, ¬ F a := fun a q => (r.trk a q).2
theorem Rep.tr {K : PySem.W.Frag} {H H' : Hp} {F F' : FA} {fp fp' : List Addr} {σ : Sg} {env : En} {v : V} {d : D} (h : Rep K H F v d) (r : REnv K H F σ env fp) (t : Tr fp H F H' F' fp') : Rep K H' F' v d := h.mono (t.stb r.nf)
/-- an owned thing beside the environment stays -/
theorem RO.tr {K : PySem.W.Frag} {H H' : Hp} {F F' : FA} {fp fp' fr : List Addr} {σ : Sg} {env : En} {v : V} {o : O} (h : RO K H F v o fr) (r : REnv K H F σ env fp) (d : ∀ a ∈ fr, a ∉ fp) (t : Tr fp H F H' F' fp') : RO K H' F' v o fr :=
  h.mono (t.stb r.nf) fun a q => by
    obtain ⟨⟨u, e⟩, f⟩ := h.trk a q
    obtain ⟨e', f'⟩ := t.keep a u e (d a q)
    exact ⟨e'.trans e.symm, f'⟩
/-- a new object, frozen -/
theorem Tr.lay {fp : List Addr} {H : Hp} {F : FA} {p : Addr} {ob : HO} (hp : H p = none) : Tr fp H F (upd H p ob) (fun a => F a ∨ a = p) fp where
  keep := fun a u e _ => ⟨by rw [upd_ne (ne_of_none e hp)]; exact e, fun q => q.elim id fun z => absurd z (ne_of_none e hp)⟩
  froz := fun a h => .inl h
  new := fun a h => .inl h
theorem REnv.lay {K : PySem.W.Frag} {H : Hp} {F : FA} {σ : Sg} {env : En} {fp : List Addr} {p : Addr} {ob : HO} (r : REnv K H F σ env fp) (hp : H p = none) : REnv K (upd H p ob) (fun a => F a ∨ a = p) σ env fp :=
  r.mono ((Tr.lay (fp := fp) hp).stb r.nf) fun a q => by
    obtain ⟨⟨u, e⟩, f⟩ := r.trk a q
    refine ⟨by rw [upd_ne (ne_of_none e hp)], fun z => z.elim id fun z => absurd z (ne_of_none e hp)⟩
/-- a frozen address is tracked -/
def Fo (H : Hp) (F : FA) : Prop := ∀ a, F a → ∃ u, H a = some u
structure Sta (K : PySem.W.Frag) (H : Hp) (F : FA) (σ : Sg) (env : En) (fp : List Addr) : Prop where
  re : REnv K H F σ env fp
  fo : Fo H F
theorem Fo.lay {H : Hp} {F : FA} {p : Addr} {ob : HO} (h : Fo H F) : Fo (upd H p ob) (fun a => F a ∨ a = p) := fun a q => by
  by_cases e : a = p
  · subst e; exact ⟨_, upd_same⟩
  · obtain ⟨u, z⟩ := h a (q.resolve_right e)
    exact ⟨u, by rw [upd_ne e]; exact z⟩
theorem Sta.lay {K : PySem.W.Frag} {H : Hp} {F : FA} {σ : Sg} {env : En} {fp : List Addr} {p : Addr} {ob : HO} (r : Sta K H F σ env fp) (hp : H p = none) : Sta K (upd H p ob) (fun a => F a ∨ a = p) σ env fp :=
  ⟨r.re.lay hp, r.fo.lay⟩
theorem Stb.refl {H : Hp} {F : FA} : Stb H F H F := ⟨fun _ _ _ h _ _ => h, fun _ _ _ h => h, fun _ h => h⟩
/-- a step of one value: all that is tracked stays, new things may be frozen -/
structure Nw (H : Hp) (F : FA) (H' : Hp) (F' : FA) : Prop where
  keep : ∀ a u, H a = some u → H' a = some u ∧ (F' a → F a)
  froz : ∀ a, F a → F' a
  fo : Fo H F → Fo H' F'
theorem Nw.refl {H : Hp} {F : FA} : Nw H F H F := ⟨fun _ _ h => ⟨h, fun f => f⟩, fun _ h => h, fun h => h⟩
theorem Nw.trans {H H1 H2 : Hp} {F F1 F2 : FA} (a : Nw H F H1 F1) (b : Nw H1 F1 H2 F2) : Nw H F H2 F2 where
  keep := fun x u h => ⟨(b.keep x u (a.keep x u h).1).1, fun q => (a.keep x u h).2 ((b.keep x u (a.keep x u h).1).2 q)⟩
  froz := fun x h => b.froz x (a.froz x h)
  fo := fun h => b.fo (a.fo h)
theorem Nw.lay {H : Hp} {F : FA} {p : Addr} {ob : HO} (hp : H p = none) : Nw H F (upd H p ob) (fun a => F a ∨ a = p) :=
  ⟨fun a u e => (Tr.lay (fp := []) hp).keep a u e (by simp), fun a h => .inl h, fun h => h.lay⟩
theorem Nw.tr {fp : List Addr} {H H' : Hp} {F F' : FA} (n : Nw H F H' F') : Tr fp H F H' F' fp := ⟨fun a u e _ => n.keep a u e, n.froz, fun _ h => .inl h⟩
theorem Nw.sta {K : PySem.W.Frag} {H H' : Hp} {F F' : FA} {σ : Sg} {env : En} {fp : List Addr} (n : Nw H F H' F') (r : Sta K H F σ env fp) : Sta K H' F' σ env fp :=
  ⟨r.re.mono ((n.tr (fp := fp)).stb r.re.nf) fun a q => by
    obtain ⟨⟨u, e⟩, f⟩ := r.re.trk a q
    obtain ⟨e', f'⟩ := n.keep a u e
    exact ⟨e'.trans e.symm, f'⟩, n.fo r.fo⟩
theorem Nw.stb {H H' : Hp} {F F' : FA} (n : Nw H F H' F') : Stb H F H' F' where
  un := fun a u f e _ _ => (n.keep a u e).1
  rd := fun a u f e => by
    rcases e with e | ⟨o, e⟩
    · exact .inl (n.keep a _ e).1
    · exact .inr ⟨o, (n.keep a _ e).1⟩
  fz := n.froz
theorem Rep.nw {K : PySem.W.Frag} {H H' : Hp} {F F' : FA} {v : V} {d : D} (h : Rep K H F v d) (n : Nw H F H' F') : Rep K H' F' v d := h.mono n.stb
theorem RepA.nw {K : PySem.W.Frag} {H H' : Hp} {F F' : FA} {v : List V} {d : List D} (h : RepA K H F v d) (n : Nw H F H' F') : RepA K H' F' v d := h.mono n.stb
end VH
set_option Elab.async false
set_option linter.all false
set_option maxRecDepth 100000
set_option maxHeartbeats 4000000
namespace VH
open PySem PySem.Spec PyProof.Rows L2

structure Xc where
  cls : Str
  fs : List (Str × D)
inductive Rs (α : Type) where
  | ok (a : α) (env : En)
  | exc (x : Xc) (env : En)
  | bad
def bnd {α β : Type} (f : En → Rs α) (g : α → En → Rs β) : En → Rs β := fun env => match f env with
  | .ok a e => g a e
  | .exc x e => .exc x e
  | .bad => .bad
def ret {α : Type} (a : α) : En → Rs α := fun env => .ok a env
def lift {α : Type} (o : Option α) : En → Rs α := fun env => match o with
  | some a => .ok a env
  | none => .bad
structure Gx where
  K : PySem.W.Frag
  mg : Str → Option Value
abbrev gx (X : Cx) : Gx := ⟨X.K, X.mg⟩
def RX (G : Gx) (H : Hp) (F : FA) (c : Value) (o : Option Addr) (x : Xc) : Prop :=
  ∃ C, G.mg x.cls = some (.ref C) ∧ c = .ref C ∧ ((o = none ∧ x.fs = []) ∨ ∃ d fs, o = some d ∧ H d = some (.xd fs) ∧ Paired (fun p q => p.1 = q.1 ∧ Rep G.K H F p.2 q.2) fs x.fs)
def Out {α : Type} (G : Gx) (W : WX) (σ : Sg) (fp : List Addr) (H : Hp) (F : FA) (r : Rs α) (P : α → En → Hp → FA → List Addr → Prop) : Prop := match r with
  | .ok a env => ∀ H' F' fp', Tr fp H F H' F' fp' → Sta G.K H' F' σ env fp' → P a env H' F' fp'
  | .exc x env => ∀ H' F' fp' c o, Tr fp H F H' F' fp' → Sta G.K H' F' σ env fp' → RX G H' F' c o x → W c o σ H'
  | .bad => False
section
variable {G : Gx} {W : WX} {σ : Sg} {fp : List Addr} {H : Hp} {F : FA}
theorem Out.mono {α : Type} {r : Rs α} {P P' : α → En → Hp → FA → List Addr → Prop} (h : Out G W σ fp H F r P) (k : ∀ a env H' F' fp', Tr fp H F H' F' fp' → Sta G.K H' F' σ env fp' → P a env H' F' fp' → P' a env H' F' fp') : Out G W σ fp H F r P' := by
  cases r with
  | ok a env => exact fun H' F' fp' t s => k a env H' F' fp' t s (h H' F' fp' t s)
  | exc x env => exact h
  | bad => exact h
theorem Out.bind {α β : Type} {f : En → Rs α} {g : α → En → Rs β} {env : En} {P : β → En → Hp → FA → List Addr → Prop} (h : Out G W σ fp H F (bnd f g env) P) :
    Out G W σ fp H F (f env) fun a env1 H1 F1 fp1 => Out G W σ fp1 H1 F1 (g a env1) P := by
  unfold bnd at h
  cases e : f env with
  | ok a env1 =>
    rw [e] at h
    intro H1 F1 fp1 t1 s1
    replace h : Out G W σ fp H F (g a env1) P := h
    cases e2 : g a env1 with
    | ok b env2 =>
      rw [e2] at h
      exact fun H2 F2 fp2 t2 s2 => h H2 F2 fp2 (t1.trans t2) s2
    | exc x env2 =>
      rw [e2] at h
      exact fun H2 F2 fp2 c o t2 s2 rx => h H2 F2 fp2 c o (t1.trans t2) s2 rx
    | bad => rw [e2] at h; exact h
  | exc x env1 => rw [e] at h; exact h
  | bad => rw [e] at h; exact h
/-- what comes by itself -/
theorem Out.lift {α : Type} {o : Option α} {env : En} {P : α → En → Hp → FA → List Addr → Prop} (h : Out G W σ fp H F (lift o env) P) : ∃ a, o = some a ∧ ∀ H' F' fp', Tr fp H F H' F' fp' → Sta G.K H' F' σ env fp' → P a env H' F' fp' := by
  cases o with
  | none => exact h.elim
  | some a => exact ⟨a, rfl, h⟩
end

/-! ### readings -/
def tD (G : Gx) (W : WX) (f : En → Rs D) : TE := fun σ H Q => ∃ env F fp, Sta G.K H F σ env fp ∧ Out G W σ fp H F (f env) fun d _ H' F' _ => ∀ v, Rep G.K H' F' v d → Q v H'
def tT (G : Gx) (W : WX) (f : En → Rs Bool) : TT := fun σ H Q => ∃ env F fp, Sta G.K H F σ env fp ∧ Out G W σ fp H F (f env) fun b _ H' _ _ => Q b H'
def tAs (G : Gx) (W : WX) (f : En → Rs (List D)) : TA := fun σ H Q => ∃ env F fp, Sta G.K H F σ env fp ∧ Out G W σ fp H F (f env) fun ds _ H' F' _ => ∀ vs, RepA G.K H' F' vs ds → Q vs H'
theorem PE.imp {X : Cx} {e : Expr} {t t' : TE} (h : PE X e t) (k : ∀ σ H Q, t' σ H Q → t σ H Q) : PE X e t' := ⟨fun pins s σ H Q I w => h.run pins s σ H Q I (k σ H Q w)⟩
theorem PT.imp {X : Cx} {e : Expr} {t t' : TT} (h : PT X e t) (k : ∀ σ H Q, t' σ H Q → t σ H Q) : PT X e t' := ⟨fun pins s σ H Q I w => h.run pins s σ H Q I (k σ H Q w)⟩
theorem PW.imp {X : Cx} {e : Expr} {t t' : TT} (h : PW X e t) (k : ∀ σ H Q, t' σ H Q → t σ H Q) : PW X e t' := ⟨fun wh pins s σ H Q I w => h.run wh pins s σ H Q I (k σ H Q w)⟩
theorem PA.imp {X : Cx} {e : List Expr} {t t' : TA} (h : PA X e t) (k : ∀ σ H Q, t' σ H Q → t σ H Q) : PA X e t' := ⟨fun pos pins s σ H Q I w => h.run pos pins s σ H Q I (k σ H Q w)⟩

/-! ### names and constants -/
def eVar (i : Nat) : En → Rs D := fun env => match env[i]? with
  | some (some o) => if o.fzb = true then .ok (fz o) (env.set i (some (.sh (fz o)))) else .bad
  | _ => .bad
def eC (d : D) : En → Rs D := fun env₀ => (ret d) env₀
theorem set_get {α : Type} {l : List α} {i : Nat} {a : α} (h : l[i]? = some a) : l.set i a = l := by
  apply List.ext_getElem?
  intro j
  by_cases e : i = j
  · subst e
    have hl : i < l.length := (List.getElem?_eq_some_iff.mp h).1
    rw [List.getElem?_set_self hl, h]
  · rw [List.getElem?_set_ne e]
section
variable {X : Cx} {W : WX}
theorem pd_var (i : Nat) {x : Str} {pos : Pos} (hN : X.N[i]? = some x := by rfl) (hv : Vis X.env.scope x := by first | exact Or.inl rfl | exact Or.inr (Or.inl rfl) | exact Or.inr (Or.inr rfl)) (hd : (x == ("__debug__" : Str)) = false := by decide)
    (hcd : (x == ("__classdict__" : Str)) = false := by decide) : PE X (.Name x pos) (tD (gx X) W (eVar i)) := by
  refine PE.imp (pe_var hN hv hd hcd) fun σ H Q h => ?_
  obtain ⟨env, F, fp, st, h⟩ := h
  unfold eVar at h
  split at h
  · rename_i o he
    split at h
    · rename_i hb
      have hi : i < env.length := (List.getElem?_eq_some_iff.mp he).1
      obtain ⟨v, o', f1, fr, e1, e2, rs, hm, hd, hk⟩ := st.re.split i hi
      rw [he] at e2
      cases e2
      cases rs with
      | @yes v _ f1 r =>
        refine ⟨v, e1, ?_⟩
        have hF : ∀ a, F a → (F a ∨ a ∈ f1) := fun a q => .inl q
        have rep : Rep X.K H (fun a => F a ∨ a ∈ f1) v (fz o) := r.freeze hF (fun a q => .inr q) hb
        have sb : Stb H F H (fun a => F a ∨ a ∈ f1) := ⟨fun _ _ _ h _ _ => h, fun _ _ _ h => h, hF⟩
        obtain ⟨fp', re, hm'⟩ := hk H (fun a => F a ∨ a ∈ f1) (some v) (some (.sh (fz o))) [] sb (fun a q => ⟨rfl, fun z => z.elim id fun z => absurd q (hd a z)⟩) (.yes (.sh rep)) (fun _ q => nomatch q)
        rw [set_get e1] at re
        refine h H (fun a => F a ∨ a ∈ f1) fp' ⟨fun a u e n => ⟨e, fun z => z.elim id fun z => absurd ((hm a).mpr (.inl z)) n⟩, hF, fun a q => .inl ((hm a).mpr (.inr (((hm' a).mp q).resolve_left (by simp))))⟩ ⟨re, fun a q => ?_⟩ v rep
        rcases q with q | q
        · exact st.fo a q
        · exact (r.trk a q).1
    · exact h.elim
  · exact h.elim
theorem pd_int {i : Int} {j pos} : PE X (.Constant (.int i) j pos) (tD (gx X) W (eC (.int i))) := PE.imp pe_int fun σ H Q ⟨env, F, fp, st, h⟩ => h H F fp .refl st _ (.int i)
theorem pd_str {i : Str} {j pos} : PE X (.Constant (.str i) j pos) (tD (gx X) W (eC (.str i))) := PE.imp pe_str fun σ H Q ⟨env, F, fp, st, h⟩ => h H F fp .refl st _ (.str i)
theorem pd_bl {i : Bool} {j pos} : PE X (.Constant (.bool i) j pos) (tD (gx X) W (eC (.bool i))) := PE.imp pe_bl fun σ H Q ⟨env, F, fp, st, h⟩ => h H F fp .refl st _ (.bl i)
theorem pd_non {j pos} : PE X (.Constant .none j pos) (tD (gx X) W (eC .none)) := PE.imp pe_non fun σ H Q ⟨env, F, fp, st, h⟩ => h H F fp .refl st _ .non
theorem pd_gint {x : Str} {i : Int} {pos : Pos} (hg : Gl X x) (hm : ∃ t, X.mg x = some (.int i t)) (hd : (x == ("__debug__" : Str)) = false := by decide) : PE X (.Name x pos) (tD (gx X) W (eC (.int i))) := by
  obtain ⟨t, hm⟩ := hm
  exact PE.imp (pe_glob (v := .int i) hg hm ⟨t, rfl⟩ hd) fun σ H Q ⟨env, F, fp, st, h⟩ => h H F fp .refl st _ (.int i)
theorem pd_gstr {x : Str} {i : Str} {pos : Pos} (hg : Gl X x) (hm : ∃ t, X.mg x = some (.str i t)) (hd : (x == ("__debug__" : Str)) = false := by decide) : PE X (.Name x pos) (tD (gx X) W (eC (.str i))) := by
  obtain ⟨t, hm⟩ := hm
  exact PE.imp (pe_glob (v := .str i) hg hm ⟨t, rfl⟩ hd) fun σ H Q ⟨env, F, fp, st, h⟩ => h H F fp .refl st _ (.str i)
end

/-! ### operators -/
/-- what an operation on values gives -/
def Gv (K : PySem.W.Frag) (H : Hp) (F : FA) (d : D) (Q : VK) : Prop := ∀ v H' F', Nw H F H' F' → Rep K H' F' v d → Q v H'
def OpD (X : Cx) (f : Value → Value → Sem Value) (op : D → D → Option D) : Prop :=
  ∀ (pins : List (Addr × Obj)) (s : Shared) (σ : Sg) (H : Hp) (F : FA) (x y : V) (v u : Value) (d1 d2 d : D) (Q : VK), Inv X pins σ H s → RelV x v → RelV y u → Rep X.K H F x d1 → Rep X.K H F y d2 → op d1 d2 = some d →
    Gv X.K H F d Q → wpAny (model X.prog X.w) X.A (f v u) (EP X pins σ Q) X.xe s
def eBin (op : D → D → Option D) (fa fb : En → Rs D) : En → Rs D := fun env₀ => (bnd fa fun x => bnd fb fun y => lift (op x y)) env₀
section
variable {X : Cx} {W : WX}
/-- two values in a row -/
theorem tD_two {op : D → D → Option D} {fa fb : En → Rs D} {σ : Sg} {H : Hp} {Q : VK} (h : tD (gx X) W (eBin op fa fb) σ H Q) :
    tD (gx X) W fa σ H fun x H1 => tD (gx X) W fb σ H1 fun y H2 => ∃ F2 d1 d2 d, Rep X.K H2 F2 x d1 ∧ Rep X.K H2 F2 y d2 ∧ op d1 d2 = some d ∧ Gv X.K H2 F2 d Q := by
  obtain ⟨env, F, fp, st, h⟩ := h
  refine ⟨env, F, fp, st, Out.mono h.bind fun d1 env1 H1 F1 fp1 t1 s1 h1 v1 r1 => ?_⟩
  refine ⟨env1, F1, fp1, s1, Out.mono h1.bind fun d2 env2 H2 F2 fp2 t2 s2 h2 v2 r2 => ?_⟩
  obtain ⟨d, e, h3⟩ := h2.lift
  exact ⟨F2, d1, d2, d, r1.tr s1.re t2, r2, e, fun v H' F' n r => h3 H' F' fp2 n.tr (n.sta s2) v r⟩
theorem pd_bin {o : Operator} {op : D → D → Option D} {a b : Expr} {fa fb : En → Rs D} {pos : Pos} (ho : OpD X (binaryOp o) op) (ha : PE X a (tD (gx X) W fa)) (hb : PE X b (tD (gx X) W fb)) : PE X (.BinOp a o b pos) (tD (gx X) W (eBin op fa fb)) := by
  refine ⟨fun pins s σ H Q I h => ?_⟩
  refine wpAny_BinOp (bin ha hb I (tD_two h) fun v u s2 x y H2 I2 rx ry ⟨F2, d1, d2, d, r1, r2, e, g⟩ => ?_)
  exact ho pins s2 σ H2 F2 x y v u d1 d2 d Q I2 rx ry r1 r2 e g
theorem pd_cmp {o : CmpOp} {op : D → D → Option D} {a b : Expr} {fa fb : En → Rs D} {pos : Pos} (ho : OpD X (compareOp o) op) (ha : PE X a (tD (gx X) W fa)) (hb : PE X b (tD (gx X) W fb)) (hm : behindInMarks o b = false) :
    PE X (.Compare a [o] [b] pos) (tD (gx X) W (eBin op fa fb)) := by
  refine ⟨fun pins s σ H Q I h => ?_⟩
  refine wpAny_Compare1 (bin ha hb I (tD_two h) fun v u s2 x y H2 I2 rx ry ⟨F2, d1, d2, d, r1, r2, e, g⟩ => ?_) hm
  exact ho pins s2 σ H2 F2 x y v u d1 d2 d Q I2 rx ry r1 r2 e g
/-- a value that must be True or False -/
def blD : D → Option Bool
  | .bool b => some b
  | _ => none
def eB (f : En → Rs D) : En → Rs Bool := fun env₀ => (bnd f fun d => lift (blD d)) env₀
theorem tD_B {f : En → Rs D} {σ : Sg} {H : Hp} {Q : Bool → Hp → Prop} (h : tT (gx X) W (eB f) σ H Q) : tD (gx X) W f σ H fun x H1 => ∃ c, x = .bl c ∧ Q c H1 := by
  obtain ⟨env, F, fp, st, h⟩ := h
  refine ⟨env, F, fp, st, Out.mono h.bind fun d env1 H1 F1 fp1 t1 s1 h1 v r => ?_⟩
  obtain ⟨b, e, h2⟩ := h1.lift
  cases r with
  | bl c =>
    cases e
    exact ⟨_, rfl, h2 H1 F1 fp1 .refl s1⟩
  | _ => cases e
theorem ptd_val {e : Expr} {f : En → Rs D} (h : PE X e (tD (gx X) W f)) (he : ∀ whole, isTrue e X.env whole = (do let v ← whole; standAt e.pos; holding [v] (truthy v)) := by intro _; rfl) : PT X e (tT (gx X) W (eB f)) :=
  PT.imp (pt_val h he) fun σ H Q h => tD_B h
theorem ptd_cmp {o : CmpOp} {op : D → D → Option D} {a b : Expr} {fa fb : En → Rs D} {pos : Pos} (ho : OpD X (compareOp o) op) (ha : PE X a (tD (gx X) W fa)) (hb : PE X b (tD (gx X) W fb)) (hm : behindInMarks o b = false) :
    PT X (.Compare a [o] [b] pos) (tT (gx X) W (eB (eBin op fa fb))) := by
  refine ⟨fun pins s σ H Q I hw => ?_⟩
  refine wpAny_isTrue_Compare1 (bin ha hb I (tD_two (tD_B hw)) fun v u s2 x y H2 I2 rx ry ⟨F2, d1, d2, d, r1, r2, e, g⟩ => ?_) hm
  refine thn (ho pins s2 σ H2 F2 x y v u d1 d2 d _ I2 rx ry r1 r2 e g) fun c s3 ⟨z, H3, I3, r3, k, ez, q⟩ => ?_
  subst ez
  cases r3
  exact wpAny_truthy_bool ⟨H3, I3, q⟩
/-! ### and, or, not, if -/
def eAnd (f g : En → Rs Bool) : En → Rs Bool := fun env₀ => (bnd f fun b env => if b = true then g env else .ok false env) env₀
def eOr (f g : En → Rs Bool) : En → Rs Bool := fun env₀ => (bnd f fun b env => if b = true then .ok true env else g env) env₀
def eNot (f : En → Rs Bool) : En → Rs Bool := fun env₀ => (bnd f fun b => ret (!b)) env₀
def eOfB (f : En → Rs Bool) : En → Rs D := fun env₀ => (bnd f fun b => ret (.bool b)) env₀
theorem tT_and {f g : En → Rs Bool} {σ : Sg} {H : Hp} {Q : Bool → Hp → Prop} (h : tT (gx X) W (eAnd f g) σ H Q) : tAnd (tT (gx X) W f) (tT (gx X) W g) σ H Q := by
  obtain ⟨env, F, fp, st, h⟩ := h
  refine ⟨env, F, fp, st, Out.mono h.bind fun b env1 H1 F1 fp1 t1 s1 h1 => ?_⟩
  cases b with
  | true => exact iteT ⟨env1, F1, fp1, s1, h1⟩
  | false => exact iteF (h1 H1 F1 fp1 .refl s1)
theorem tT_or {f g : En → Rs Bool} {σ : Sg} {H : Hp} {Q : Bool → Hp → Prop} (h : tT (gx X) W (eOr f g) σ H Q) : tOr (tT (gx X) W f) (tT (gx X) W g) σ H Q := by
  obtain ⟨env, F, fp, st, h⟩ := h
  refine ⟨env, F, fp, st, Out.mono h.bind fun b env1 H1 F1 fp1 t1 s1 h1 => ?_⟩
  cases b with
  | false => exact iteF ⟨env1, F1, fp1, s1, h1⟩
  | true => exact iteT (h1 H1 F1 fp1 .refl s1)
section
variable {a b : Expr} {rest : List Expr} {pos : Pos} {f g : En → Rs Bool}
theorem pwd_and1 (h : PT X a (tT (gx X) W f)) : PW X (.BoolOp .And [a] pos) (tT (gx X) W f) := pw_and1 h
theorem pwd_or1 (h : PT X a (tT (gx X) W f)) : PW X (.BoolOp .Or [a] pos) (tT (gx X) W f) := pw_or1 h
theorem pwd_and (h : PT X a (tT (gx X) W f)) (h2 : PW X (.BoolOp .And (b :: rest) pos) (tT (gx X) W g)) : PW X (.BoolOp .And (a :: b :: rest) pos) (tT (gx X) W (eAnd f g)) := PW.imp (pw_and h h2) fun _ _ _ => tT_and
theorem pwd_or (h : PT X a (tT (gx X) W f)) (h2 : PW X (.BoolOp .Or (b :: rest) pos) (tT (gx X) W g)) : PW X (.BoolOp .Or (a :: b :: rest) pos) (tT (gx X) W (eOr f g)) := PW.imp (pw_or h h2) fun _ _ _ => tT_or
theorem ptd_not (h : PT X a (tT (gx X) W f)) : PT X (.UnaryOp .Not a pos) (tT (gx X) W (eNot f)) := PT.imp (pt_not h) fun σ H Q ⟨env, F, fp, st, h⟩ =>
  ⟨env, F, fp, st, Out.mono h.bind fun b env1 H1 F1 fp1 t1 s1 h1 => h1 H1 F1 fp1 .refl s1⟩
/-- values that are True or False -/
def eAndV (f g : En → Rs D) : En → Rs D := fun env₀ => (bnd (eB f) fun b env => if b = true then g env else .ok (.bool false) env) env₀
def eOrV (f g : En → Rs D) : En → Rs D := fun env₀ => (bnd (eB f) fun b env => if b = true then .ok (.bool true) env else g env) env₀
def eNotV (f : En → Rs D) : En → Rs D := fun env₀ => (bnd (eB f) fun b => ret (.bool (!b))) env₀
variable {p q : En → Rs D}
theorem tD_of_B {k : Bool → En → Rs D} {σ : Sg} {H : Hp} {Q : VK} (h : tD (gx X) W (bnd (eB p) k) σ H Q) : tD (gx X) W p σ H fun x H1 => ∃ c, x = .bl c ∧ tD (gx X) W (k c) σ H1 Q := by
  obtain ⟨env, F, fp, st, h⟩ := h
  refine ⟨env, F, fp, st, Out.mono h.bind.bind fun d env1 H1 F1 fp1 t1 s1 h1 v r => ?_⟩
  obtain ⟨b, e, h2⟩ := h1.lift
  cases r with
  | bl c =>
    cases e
    exact ⟨_, rfl, env1, F1, fp1, s1, h2 H1 F1 fp1 .refl s1⟩
  | _ => cases e
theorem tD_ret {d : D} {σ : Sg} {H : Hp} {Q : VK} (h : tD (gx X) W (ret d) σ H Q) : ∃ F, ∀ v, Rep X.K H F v d → Q v H := by
  obtain ⟨env, F, fp, st, h⟩ := h
  exact ⟨F, h H F fp .refl st⟩
theorem pd_one {op} (h : PE X a (tD (gx X) W p)) : PE X (.BoolOp op [a] pos) (tD (gx X) W p) := pe_one h
theorem pd_and (h : PE X a (tD (gx X) W p)) (h2 : PE X (.BoolOp .And (b :: rest) pos) (tD (gx X) W q)) : PE X (.BoolOp .And (a :: b :: rest) pos) (tD (gx X) W (eAndV p q)) := PE.imp (pe_and h h2) fun σ H Q h => by
  obtain ⟨env, F, fp, st, h⟩ := tD_of_B h
  refine ⟨env, F, fp, st, Out.mono h fun d env1 H1 F1 fp1 t1 s1 h1 v r => ?_⟩
  obtain ⟨c, e, h2⟩ := h1 v r
  refine ⟨c, e, ?_⟩
  cases c with
  | true => exact iteT h2
  | false =>
    obtain ⟨F2, h3⟩ := tD_ret (d := .bool false) h2
    exact iteF (h3 _ (.bl false))
theorem pd_or (h : PE X a (tD (gx X) W p)) (h2 : PE X (.BoolOp .Or (b :: rest) pos) (tD (gx X) W q)) : PE X (.BoolOp .Or (a :: b :: rest) pos) (tD (gx X) W (eOrV p q)) := PE.imp (pe_or h h2) fun σ H Q h => by
  obtain ⟨env, F, fp, st, h⟩ := tD_of_B h
  refine ⟨env, F, fp, st, Out.mono h fun d env1 H1 F1 fp1 t1 s1 h1 v r => ?_⟩
  obtain ⟨c, e, h2⟩ := h1 v r
  refine ⟨c, e, ?_⟩
  cases c with
  | false => exact iteF h2
  | true =>
    obtain ⟨F2, h3⟩ := tD_ret (d := .bool true) h2
    exact iteT (h3 _ (.bl true))
theorem pd_not (h : PE X a (tD (gx X) W p)) : PE X (.UnaryOp .Not a pos) (tD (gx X) W (eNotV p)) := PE.imp (pe_not h) fun σ H Q h => by
  obtain ⟨env, F, fp, st, h⟩ := tD_of_B h
  refine ⟨env, F, fp, st, Out.mono h fun d env1 H1 F1 fp1 t1 s1 h1 v r => ?_⟩
  obtain ⟨c, e, h2⟩ := h1 v r
  obtain ⟨F2, h3⟩ := tD_ret (d := .bool (!c)) h2
  exact ⟨c, e, h3 _ (.bl _)⟩
def eIf (c : En → Rs Bool) (f g : En → Rs D) : En → Rs D := fun env₀ => (bnd c fun b env => if b = true then f env else g env) env₀
theorem pd_if {c : Expr} (hc : PT X c (tT (gx X) W f)) (ha : PE X a (tD (gx X) W p)) (hb : PE X b (tD (gx X) W q)) : PE X (.IfExp c a b pos) (tD (gx X) W (eIf f p q)) := PE.imp (pe_ifExp hc ha hb) fun σ H Q ⟨env, F, fp, st, h⟩ => by
  refine ⟨env, F, fp, st, Out.mono h.bind fun b env1 H1 F1 fp1 t1 s1 h1 => ?_⟩
  cases b with
  | true => exact iteT ⟨env1, F1, fp1, s1, h1⟩
  | false => exact iteF ⟨env1, F1, fp1, s1, h1⟩
end
end
end VH
set_option Elab.async false
set_option linter.all false
set_option maxRecDepth 100000
set_option maxHeartbeats 4000000
namespace VH
open PySem PySem.Spec PyProof.Rows L2

/-! ### what comes of it -/
section
variable {K : PySem.W.Frag} {H : Hp} {F : FA} {Q : VK}
theorem Gv.int {i : Int} (g : Gv K H F (.int i) Q) : Q (.int i) H := g _ H F .refl (.int i)
theorem Gv.str {i : Str} (g : Gv K H F (.str i) Q) : Q (.str i) H := g _ H F .refl (.str i)
theorem Gv.bl {i : Bool} (g : Gv K H F (.bool i) Q) : Q (.bl i) H := g _ H F .refl (.bl i)
theorem Gv.non (g : Gv K H F .none Q) : Q .non H := g _ H F .refl .non
theorem Gv.same {v : V} {d : D} (g : Gv K H F d Q) (r : Rep K H F v d) : Q v H := g _ H F .refl r
theorem Gv.lst {vs : List V} {ds : List D} (g : Gv K H F (.list ds) Q) (r : RepA K H F vs ds) : ∀ p, H p = none → Q (.ref p) (upd H p (.lst vs)) :=
  fun p np => g _ _ _ (Nw.lay np) (.lst ⟨.inr rfl, upd_same⟩ (r.nw (Nw.lay np)))
theorem Gv.tup {vs : List V} {ds : List D} (g : Gv K H F (.tuple ds) Q) (r : RepA K H F vs ds) : ∀ p, H p = none → Q (.ref p) (upd H p (.tup vs)) :=
  fun p np => g _ _ _ (Nw.lay np) (.tup (.inl ⟨.inr rfl, upd_same⟩) (r.nw (Nw.lay np)))
end
theorem OpD.of {X : Cx} {f : Value → Value → Sem Value} {op : D → D → Option D} {r : R2} (h : OpR X f r)
    (k : ∀ (H : Hp) (F : FA) (x y : V) (d1 d2 d : D) (Q : VK), Rep X.K H F x d1 → Rep X.K H F y d2 → op d1 d2 = some d → Gv X.K H F d Q → r x y H Q) : OpD X f op :=
  fun pins s σ H F x y v u d1 d2 d Q I rv ru r1 r2 e g => h pins s σ H x y v u Q I rv ru (k H F x y d1 d2 d Q r1 r2 e g)
theorem OpD.or {X : Cx} {f : Value → Value → Sem Value} {a b op : D → D → Option D} (h : OpD X f a) (h' : OpD X f b) (k : ∀ x y d, op x y = some d → a x y = some d ∨ b x y = some d) : OpD X f op :=
  fun pins s σ H F x y v u d1 d2 d Q I rv ru r1 r2 e g => (k _ _ _ e).elim (fun e => h pins s σ H F x y v u d1 d2 d Q I rv ru r1 r2 e g) fun e => h' pins s σ H F x y v u d1 d2 d Q I rv ru r1 r2 e g

/-! ### + -/
def addI : D → D → Option D
  | .int i, .int j => some (.int (i + j))
  | _, _ => none
def addS : D → D → Option D
  | .str a, .str b => if a.length + b.length ≤ sizeLine then some (.str (a ++ b)) else none
  | _, _ => none
def addL : D → D → Option D
  | .list a, .list b => if a.length + b.length ≤ sizeLine then some (.list (a ++ b)) else none
  | _, _ => none
def addT : D → D → Option D
  | .tuple a, .tuple b => if a.length + b.length ≤ sizeLine then some (.tuple (a ++ b)) else none
  | _, _ => none
def addD : D → D → Option D
  | .int i, .int j => some (.int (i + j))
  | .str a, .str b => if a.length + b.length ≤ sizeLine then some (.str (a ++ b)) else none
  | .list a, .list b => if a.length + b.length ≤ sizeLine then some (.list (a ++ b)) else none
  | .tuple a, .tuple b => if a.length + b.length ≤ sizeLine then some (.tuple (a ++ b)) else none
  | _, _ => none
section
variable {X : Cx}
theorem od_addI : OpD X (binaryOp .Add) addI := .of op_add fun H F x y d1 d2 d Q r1 r2 e g => by
  unfold addI at e
  split at e
  · cases e; cases r1; cases r2; exact ⟨_, _, rfl, rfl, g.int⟩
  · cases e
theorem od_addS : OpD X (binaryOp .Add) addS := .of op_add_str fun H F x y d1 d2 d Q r1 r2 e g => by
  unfold addS at e
  split at e
  · split at e
    · rename_i h
      cases e; cases r1; cases r2; exact ⟨_, _, rfl, rfl, h, g.str⟩
    · cases e
  · cases e
theorem od_addL : OpD X (binaryOp .Add) addL := .of op_cat fun H F x y d1 d2 d Q r1 r2 e g => by
  unfold addL at e
  split at e
  · split at e
    · rename_i h
      cases e
      cases r1 with
      | lst f1 q1 => cases r2 with
        | lst f2 q2 => exact ⟨_, _, _, _, rfl, rfl, f1.2, f2.2, by rw [q1.length, q2.length]; exact h, g.lst (q1.append q2)⟩
    · cases e
  · cases e
theorem od_addT : OpD X (binaryOp .Add) addT := .of op_catA fun H F x y d1 d2 d Q r1 r2 e g => by
  unfold addT at e
  split at e
  · split at e
    · rename_i h
      cases e
      cases r1 with
      | tup f1 q1 => cases r2 with
        | tup f2 q2 =>
          refine ⟨_, _, _, _, rfl, rfl, f1.sq, f2.sq, by rw [q1.length, q2.length]; exact h, fun z => ?_, fun _ z => ?_, fun _ _ => g.tup (q1.append q2)⟩
          · subst z; cases q1; exact g.same (.tup f2 q2)
          · subst z; cases q2; exact g.same (by rw [List.append_nil]; exact .tup f1 q1)
    · cases e
  · cases e
theorem od_add : OpD X (binaryOp .Add) addD := .or od_addI (.or od_addS (.or od_addL od_addT (op := fun x y => (addL x y).or (addT x y)) fun x y d e => Option.or_eq_some_iff.mp e |>.imp id And.right)
    (op := fun x y => (addS x y).or ((addL x y).or (addT x y))) fun x y d e => Option.or_eq_some_iff.mp e |>.imp id And.right) fun x y d e => by
  unfold addD at e
  split at e
  · exact .inl e
  · refine .inr ?_; show Option.or (addS _ _) _ = _; unfold addS; dsimp only; rw [e]; rfl
  · refine .inr ?_; show Option.or (addS _ _) (Option.or (addL _ _) _) = _; unfold addS addL; dsimp only; rw [e]; rfl
  · refine .inr ?_; show Option.or (addS _ _) (Option.or (addL _ _) (addT _ _)) = _; unfold addS addL addT; dsimp only; rw [e]; rfl
  · cases e
/-! ### ints -/
def subD : D → D → Option D
  | .int i, .int j => some (.int (i - j))
  | _, _ => none
def mulD : D → D → Option D
  | .int i, .int j => if (-(2 ^ 64) < i ∧ i < 2 ^ 64) ∨ (-(2 ^ 64) < j ∧ j < 2 ^ 64) then some (.int (i * j)) else none
  | _, _ => none
def fdivD : D → D → Option D
  | .int i, .int j => if 0 < j ∧ j.natAbs.log2 < 9000 then some (.int (i / j)) else none
  | _, _ => none
def modD : D → D → Option D
  | .int i, .int j => if 0 < j then some (.int (i % j)) else none
  | _, _ => none
def andD : D → D → Option D
  | .int i, .int j => some (.int (Builtin.bitAnd i j))
  | _, _ => none
def shrD : D → D → Option D
  | .int i, .int j => if 0 ≤ j then some (.int (i / 2 ^ j.toNat)) else none
  | _, _ => none
theorem od_sub : OpD X (binaryOp .Sub) subD := .of op_sub fun H F x y d1 d2 d Q r1 r2 e g => by
  unfold subD at e
  split at e
  · cases e; cases r1; cases r2; exact ⟨_, _, rfl, rfl, g.int⟩
  · cases e
theorem od_mul : OpD X (binaryOp .Mult) mulD := .of op_mul fun H F x y d1 d2 d Q r1 r2 e g => by
  unfold mulD at e
  split at e
  · split at e
    · rename_i h
      cases e; cases r1; cases r2; exact ⟨_, _, rfl, rfl, h, g.int⟩
    · cases e
  · cases e
theorem od_fdiv : OpD X (binaryOp .FloorDiv) fdivD := .of op_fdivW fun H F x y d1 d2 d Q r1 r2 e g => by
  unfold fdivD at e
  split at e
  · split at e
    · rename_i h
      cases e; cases r1; cases r2; exact ⟨_, _, rfl, rfl, h, g.int⟩
    · cases e
  · cases e
theorem od_mod : OpD X (binaryOp .Mod) modD := .of op_mod fun H F x y d1 d2 d Q r1 r2 e g => by
  unfold modD at e
  split at e
  · split at e
    · rename_i h
      cases e; cases r1; cases r2; exact ⟨_, _, rfl, rfl, h, g.int⟩
    · cases e
  · cases e
theorem od_and : OpD X (binaryOp .BitAnd) andD := .of op_and fun H F x y d1 d2 d Q r1 r2 e g => by
  unfold andD at e
  split at e
  · cases e; cases r1; cases r2; exact ⟨_, _, rfl, rfl, g.int⟩
  · cases e
theorem od_shr : OpD X (binaryOp .RShift) shrD := .of op_shr fun H F x y d1 d2 d Q r1 r2 e g => by
  unfold shrD at e
  split at e
  · split at e
    · rename_i h
      cases e; cases r1; cases r2; exact ⟨_, _, rfl, rfl, h, g.int⟩
    · cases e
  · cases e
end
/-! ### ==, != -/
mutual
theorem Rep.dp {K : PySem.W.Frag} {H : Hp} {F : FA} : ∀ {v : V} {d : D}, Rep K H F v d → d.canLay0 = true → Dp K H v d
  | _, _, .non, _ => .non
  | _, _, .bl b, _ => .bl b
  | _, _, .int i, _ => .int i
  | _, _, .str x, _ => .str x
  | _, _, .lst f r, c => .lst f.sq (RepA.dp r c)
  | _, _, .tup f r, c => .tup f.sq (RepA.dp r c)
  | _, _, .dic f r, c => by cases c
theorem RepA.dp {K : PySem.W.Frag} {H : Hp} {F : FA} : ∀ {v : List V} {d : List D}, RepA K H F v d → PyData.canLayAll0 d = true → DpAll K H v d
  | _, _, .nil, _ => .nil
  | _, _, .cons h t, c => .cons (Rep.dp h (Bool.and_eq_true_iff.mp c).1) (RepA.dp t (Bool.and_eq_true_iff.mp c).2)
end
/-- == of data without dicts -/
def eqS : D → D → Option Bool
  | .int i, .int j => some (i == j)
  | .str i, .str j => some (i == j)
  | .bool i, .bool j => some (i == j)
  | .none, .none => some true
  | .none, .int _ => some false
  | .int _, .none => some false
  | .none, .bool _ => some false
  | .bool _, .none => some false
  | .none, .str _ => some false
  | .str _, .none => some false
  | .int _, .str _ => some false
  | .str _, .int _ => some false
  | .bool _, .str _ => some false
  | .str _, .bool _ => some false
  | a, b => if SeqAt.shaped a = true ∧ SeqAt.shaped b = true then some (a.eqv b) else none
def scalD : D → Bool
  | .none => true | .bool _ => true | .int _ => true | .str _ => true
  | _ => false
def eqD (a b : D) : Option D := (eqS a b).map .bool
def neD (a b : D) : Option D := (eqS a b).map fun c => .bool (!c)
theorem eqS_cases {a b : D} {c : Bool} (h : eqS a b = some c) : (∀ {K : PySem.W.Frag} {H : Hp} {F : FA} {x y : V}, Rep K H F x a → Rep K H F y b → scal x y = true ∧ decide (x = y) = c) ∨ (SeqAt.shaped a = true ∧ SeqAt.shaped b = true ∧ a.eqv b = c) := by
  unfold eqS at h
  split at h
  all_goals first
    | (split at h
       · rename_i k; cases h; exact .inr ⟨k.1, k.2, rfl⟩
       · cases h)
    | (cases h
       refine .inl fun {K H F x y} r1 r2 => ?_
       cases r1; cases r2
       first
         | exact ⟨rfl, dec_int⟩
         | exact ⟨rfl, dec_str⟩
         | exact ⟨rfl, dec_bl⟩
         | exact ⟨rfl, rfl⟩
         | exact ⟨rfl, decide_eq_false fun z => by cases z⟩)
section
variable {X : Cx}
theorem od_eq (hu : X.A.units + 64 < cLine) : OpD X (compareOp .Eq) eqD := fun pins s σ H F x y v u d1 d2 d Q I rv ru r1 r2 e g => by
  obtain ⟨c, e', rfl⟩ := Option.map_eq_some_iff.mp e
  rcases eqS_cases e' with k | ⟨k1, k2, k⟩
  · obtain ⟨z1, z2⟩ := k r1 r2
    exact op_eq pins s σ H x y v u Q I rv ru ⟨z1, z2 ▸ g.bl⟩
  · exact op_eqD hu pins s σ H x y v u Q I rv ru ⟨d1, d2, r1.dp (SeqAt.canLay_of_shaped k1), r2.dp (SeqAt.canLay_of_shaped k2), k1, k2, k ▸ g.bl⟩
theorem od_ne (hu : X.A.units + 64 < cLine) : OpD X (compareOp .NotEq) neD := fun pins s σ H F x y v u d1 d2 d Q I rv ru r1 r2 e g => by
  obtain ⟨c, e', rfl⟩ := Option.map_eq_some_iff.mp e
  rcases eqS_cases e' with k | ⟨k1, k2, k⟩
  · obtain ⟨z1, z2⟩ := k r1 r2
    exact op_ne pins s σ H x y v u Q I rv ru ⟨z1, z2 ▸ g.bl⟩
  · exact op_neD hu pins s σ H x y v u Q I rv ru ⟨d1, d2, r1.dp (SeqAt.canLay_of_shaped k1), r2.dp (SeqAt.canLay_of_shaped k2), k1, k2, k ▸ g.bl⟩
/-! ### order -/
def ltD : D → D → Option D
  | .int i, .int j => some (.bool (decide (i < j)))
  | .str i, .str j => some (.bool (decide (i.cps.toList < j.cps.toList)))
  | _, _ => none
def gtD : D → D → Option D
  | .int i, .int j => some (.bool (decide (j < i)))
  | .str i, .str j => some (.bool (decide (j.cps.toList < i.cps.toList)))
  | _, _ => none
def leD : D → D → Option D
  | .int i, .int j => some (.bool (decide (i ≤ j)))
  | .str i, .str j => some (.bool (!decide (j.cps.toList < i.cps.toList)))
  | _, _ => none
def geD : D → D → Option D
  | .int i, .int j => some (.bool (decide (j ≤ i)))
  | .str i, .str j => some (.bool (!decide (i.cps.toList < j.cps.toList)))
  | _, _ => none
theorem od_lt : OpD X (compareOp .Lt) ltD := .of (.or op_lt op_lt_str) fun H F x y d1 d2 d Q r1 r2 e g => by
  unfold ltD at e
  split at e
  · cases e; cases r1; cases r2; exact .inl ⟨_, _, rfl, rfl, g.bl⟩
  · cases e; cases r1; cases r2; exact .inr ⟨_, _, rfl, rfl, g.bl⟩
  · cases e
theorem od_gt : OpD X (compareOp .Gt) gtD := .of (.or op_gt op_gt_str) fun H F x y d1 d2 d Q r1 r2 e g => by
  unfold gtD at e
  split at e
  · cases e; cases r1; cases r2; exact .inl ⟨_, _, rfl, rfl, g.bl⟩
  · cases e; cases r1; cases r2; exact .inr ⟨_, _, rfl, rfl, g.bl⟩
  · cases e
theorem od_le : OpD X (compareOp .LtE) leD := .of (.or op_le op_le_str) fun H F x y d1 d2 d Q r1 r2 e g => by
  unfold leD at e
  split at e
  · cases e; cases r1; cases r2; exact .inl ⟨_, _, rfl, rfl, g.bl⟩
  · cases e; cases r1; cases r2; exact .inr ⟨_, _, rfl, rfl, g.bl⟩
  · cases e
theorem od_ge : OpD X (compareOp .GtE) geD := .of (.or op_ge op_ge_str) fun H F x y d1 d2 d Q r1 r2 e g => by
  unfold geD at e
  split at e
  · cases e; cases r1; cases r2; exact .inl ⟨_, _, rfl, rfl, g.bl⟩
  · cases e; cases r1; cases r2; exact .inr ⟨_, _, rfl, rfl, g.bl⟩
  · cases e
/-! ### is None -/
def isN : D → Bool
  | .none => true
  | _ => false
theorem Rep.isN {K : PySem.W.Frag} {H : Hp} {F : FA} {v : V} {d : D} (r : Rep K H F v d) : decide (v = .non) = VH.isN d := by
  cases r <;> first | rfl | exact decide_eq_false fun z => by cases z
def eIsN (f : En → Rs D) : En → Rs D := fun env₀ => (bnd f fun d => ret (.bool (isN d))) env₀
def eNotN (f : En → Rs D) : En → Rs D := fun env₀ => (bnd f fun d => ret (.bool (!isN d))) env₀
variable {W : WX} {a : Expr} {f : En → Rs D} {pos : Pos}
theorem pd_isN {j pos'} (h : PE X a (tD (gx X) W f)) : PE X (.Compare a [.Is] [.Constant .none j pos'] pos) (tD (gx X) W (eIsN f)) := PE.imp (pe_cmp (pc_isN h) rfl) fun σ H Q ⟨env, F, fp, st, h⟩ =>
  ⟨env, F, fp, st, Out.mono h.bind fun d env1 H1 F1 fp1 t1 s1 h1 v r => by show Q (.bl (decide (v = .non))) H1; rw [r.isN]; exact h1 H1 F1 fp1 .refl s1 _ (.bl _)⟩
theorem pd_notN {j pos'} (h : PE X a (tD (gx X) W f)) : PE X (.Compare a [.IsNot] [.Constant .none j pos'] pos) (tD (gx X) W (eNotN f)) := PE.imp (pe_cmp (pc_notN h) rfl) fun σ H Q ⟨env, F, fp, st, h⟩ =>
  ⟨env, F, fp, st, Out.mono h.bind fun d env1 H1 F1 fp1 t1 s1 h1 v r => by show Q (.bl (!decide (v = .non))) H1; rw [r.isN]; exact h1 H1 F1 fp1 .refl s1 _ (.bl _)⟩
/-! ### one-place operations -/
def negD : D → Option D
  | .int i => some (.int (-i))
  | _ => none
def eUn (op : D → Option D) (f : En → Rs D) : En → Rs D := fun env₀ => (bnd f fun d => lift (op d)) env₀
def UnD (X : Cx) (f : Value → Sem Value) (op : D → Option D) : Prop := ∀ (pins : List (Addr × Obj)) (s : Shared) (σ : Sg) (H : Hp) (F : FA) (x : V) (v : Value) (d1 d : D) (Q : VK), Inv X pins σ H s → RelV x v → Rep X.K H F x d1 → op d1 = some d →
    Gv X.K H F d Q → wpAny (model X.prog X.w) X.A (f v) (EP X pins σ Q) X.xe s
theorem tD_un {op : D → Option D} {σ : Sg} {H : Hp} {Q : VK} (h : tD (gx X) W (eUn op f) σ H Q) : tD (gx X) W f σ H fun x H1 => ∃ F1 d1 d, Rep X.K H1 F1 x d1 ∧ op d1 = some d ∧ Gv X.K H1 F1 d Q := by
  obtain ⟨env, F, fp, st, h⟩ := h
  refine ⟨env, F, fp, st, Out.mono h.bind fun d1 env1 H1 F1 fp1 t1 s1 h1 v1 r1 => ?_⟩
  obtain ⟨d, e, h2⟩ := h1.lift
  exact ⟨F1, d1, d, r1, e, fun v H' F' n r => h2 H' F' fp1 n.tr (n.sta s1) v r⟩
theorem ud_neg : UnD X (unaryOp .USub) negD := fun pins s σ H F x v d1 d Q I rv r e g => un_neg pins s σ H x v Q I rv (by
  unfold negD at e
  split at e
  · cases e; cases r; exact ⟨_, rfl, g.int⟩
  · cases e)
theorem pd_un {o : UnaryOp} {op : D → Option D} (ho : UnD X (unaryOp o) op) (h : PE X a (tD (gx X) W f)) : PE X (.UnaryOp o a pos) (tD (gx X) W (eUn op f)) := by
  refine ⟨fun pins s σ H Q I hw => ?_⟩
  refine UnaryOp_ (thn (h.run pins s σ H _ I (tD_un hw)) fun v s1 ⟨x, H1, I1, r1, F1, d1, d, q1, e, g⟩ => ?_)
  exact ho pins s1 σ H1 F1 x v d1 d Q I1 r1 q1 e g
end
end VH
set_option Elab.async false
set_option linter.all false
set_option maxRecDepth 100000
set_option maxHeartbeats 4000000
namespace VH
open PySem PySem.Spec PyProof.Rows L2

/-! ### argument lists, displays -/
def eNil : En → Rs (List D) := fun env₀ => (ret []) env₀
def eCons (f : En → Rs D) (g : En → Rs (List D)) : En → Rs (List D) := fun env₀ => (bnd f fun d => bnd g fun ds => ret (d :: ds)) env₀
def tupD (ds : List D) : Option D := if ds.length ≤ 1000 then some (.tuple ds) else none
def lstD (ds : List D) : Option D := if ds.length ≤ 1000 then some (.list ds) else none
def eAll (op : List D → Option D) (g : En → Rs (List D)) : En → Rs D := fun env₀ => (bnd g fun ds => lift (op ds)) env₀
section
variable {X : Cx} {W : WX} {e : Expr} {es : List Expr} {f : En → Rs D} {g : En → Rs (List D)} {pos : Pos}
theorem pad_nil : PA X [] (tAs (gx X) W eNil) := PA.imp pa_nil fun σ H Q ⟨env, F, fp, st, h⟩ => h H F fp .refl st _ .nil
theorem pad_cons (ha : PE X e (tD (gx X) W f)) (hr : PA X es (tAs (gx X) W g)) (hs : starEach (e :: es) X.env = (false, eval e X.env) :: starEach es X.env := by rfl) : PA X (e :: es) (tAs (gx X) W (eCons f g)) := PA.imp (pa_cons ha hr hs) fun σ H Q h => by
  obtain ⟨env, F, fp, st, h⟩ := h
  refine ⟨env, F, fp, st, Out.mono h.bind fun d env1 H1 F1 fp1 t1 s1 h1 v r => ?_⟩
  refine ⟨env1, F1, fp1, s1, Out.mono h1.bind fun ds env2 H2 F2 fp2 t2 s2 h2 vs rs => ?_⟩
  exact h2 H2 F2 fp2 .refl s2 _ (.cons (r.tr s1.re t2) rs)
theorem tD_all {op : List D → Option D} {σ : Sg} {H : Hp} {Q : VK} (h : tD (gx X) W (eAll op g) σ H Q) : tAs (gx X) W g σ H fun vs H1 => ∃ F1 ds d, RepA X.K H1 F1 vs ds ∧ op ds = some d ∧ Gv X.K H1 F1 d Q := by
  obtain ⟨env, F, fp, st, h⟩ := h
  refine ⟨env, F, fp, st, Out.mono h.bind fun ds env1 H1 F1 fp1 t1 s1 h1 v1 r1 => ?_⟩
  obtain ⟨d, e, h2⟩ := h1.lift
  exact ⟨F1, ds, d, r1, e, fun v H' F' n r => h2 H' F' fp1 n.tr (n.sta s1) v r⟩
theorem tAs_imp {σ : Sg} {H : Hp} {Q Q' : List V → Hp → Prop} (h : tAs (gx X) W g σ H Q) (k : ∀ v H, Q v H → Q' v H) : tAs (gx X) W g σ H Q' := by
  obtain ⟨env, F, fp, st, h⟩ := h
  exact ⟨env, F, fp, st, Out.mono h fun ds env1 H1 F1 fp1 t1 s1 h1 v1 r1 => k _ _ (h1 v1 r1)⟩
theorem tD_imp {σ : Sg} {H : Hp} {Q Q' : VK} (h : tD (gx X) W f σ H Q) (k : ∀ v H, Q v H → Q' v H) : tD (gx X) W f σ H Q' := by
  obtain ⟨env, F, fp, st, h⟩ := h
  exact ⟨env, F, fp, st, Out.mono h fun ds env1 H1 F1 fp1 t1 s1 h1 v1 r1 => k _ _ (h1 v1 r1)⟩
theorem le_line {n : Nat} (h : n ≤ 1000) : n ≤ sizeLine := Nat.le_of_lt (small1000 h)
theorem pd_tup {x1} (h : PA X es (tAs (gx X) W g)) : PE X (.Tuple es x1 pos) (tD (gx X) W (eAll tupD g)) := PE.imp (pe_tup h) fun σ H Q hw => by
  refine tAs_imp (tD_all hw) fun vs H1 ⟨F1, ds, d, r, e, q⟩ => ?_
  unfold tupD at e
  split at e
  · cases e; exact ⟨by rw [r.length]; exact le_line (by assumption), q.tup r⟩
  · cases e
theorem pd_lst (h : PA X es (tAs (gx X) W g)) : PE X (.List es pos) (tD (gx X) W (eAll lstD g)) := PE.imp (pe_lst h) fun σ H Q hw => by
  refine tAs_imp (tD_all hw) fun vs H1 ⟨F1, ds, d, r, e, q⟩ => ?_
  unfold lstD at e
  split at e
  · cases e; exact ⟨by rw [r.length]; exact le_line (by assumption), q.lst r⟩
  · cases e
/-! ### built-in functions -/
def rDs (K : PySem.W.Frag) (op : List D → Option D) : List V → Hp → VK → Prop := fun vs H Q => ∃ F ds d, RepA K H F vs ds ∧ op ds = some d ∧ Gv K H F d Q
abbrev CallD (X : Cx) (f : Value) (op : List D → Option D) : Prop := CallR X f (rDs X.K op)
theorem pd_callB {x : Str} {id : String} {op : List D → Option D} {p : Pos} (hc : CallD X (.builtin id) op) (hg : Gl X x) (hm : X.mg x = none) (hv : bootBuiltins x = some (.builtin id)) (ha : PA X (e :: es) (tAs (gx X) W g))
    (hn : x ≠ "__name__" := by decide) (hdb : (x == ("__debug__" : Str)) = false := by decide) (he : starEach (e :: es) X.env = (false, eval e X.env) :: starEach es X.env := by rfl) (hpl : (backTo pos (starEach es X.env)).any (·.1) = false := by rfl) :
    PE X (.Call (.Name x p) (e :: es) [] pos) (tD (gx X) W (eAll op g)) := PE.imp (pe_callB hc hg hm hv ha hn hdb he hpl) fun σ H Q hw => tAs_imp (tD_all hw) fun vs H1 q => q
theorem pd_callTy {x : Str} {T : String} {op : List D → Option D} {p : Pos} (hc : CallD X (.type T) op) (hg : Gl X x) (hm : X.mg x = none) (hv : bootBuiltins x = some (.type T)) (ha : PA X (e :: es) (tAs (gx X) W g))
    (hn : x ≠ "__name__" := by decide) (hdb : (x == ("__debug__" : Str)) = false := by decide) (he : starEach (e :: es) X.env = (false, eval e X.env) :: starEach es X.env := by rfl) (hpl : (backTo pos (starEach es X.env)).any (·.1) = false := by rfl) :
    PE X (.Call (.Name x p) (e :: es) [] pos) (tD (gx X) W (eAll op g)) := PE.imp (pe_callTy hc hg hm hv ha hn hdb he hpl) fun σ H Q hw => tAs_imp (tD_all hw) fun vs H1 q => q
theorem CallD.of {f : Value} {op : List D → Option D} {r : List V → Hp → VK → Prop} (h : CallR X f r)
    (k : ∀ (H : Hp) (F : FA) (vs : List V) (ds : List D) (d : D) (Q : VK), RepA X.K H F vs ds → op ds = some d → Gv X.K H F d Q → r vs H Q) : CallD X f op :=
  fun pins s σ H xs us Q I rv ⟨F, ds, d, r, e, g⟩ => h pins s σ H xs us Q I rv (k H F xs ds d Q r e g)
theorem RepA.one {K : PySem.W.Frag} {H : Hp} {F : FA} {vs : List V} {d : D} (h : RepA K H F vs [d]) : ∃ v, vs = [v] ∧ Rep K H F v d := by
  cases h with
  | cons r t => cases t; exact ⟨_, rfl, r⟩
def lenD : List D → Option D
  | [.str x] => if x.length ≤ sizeLine then some (.int x.length) else none
  | [.list x] => some (.int x.length)
  | [.tuple x] => some (.int x.length)
  | [.dict x] => some (.int x.length)
  | _ => none
theorem RepK.length {K : PySem.W.Frag} {H : Hp} {F : FA} : ∀ {vs : List (Key × V)} {ds : List (D × D)}, RepK K H F vs ds → vs.length = ds.length
  | _, _, .nil => rfl
  | _, _, .cons _ t => by rw [List.length_cons, List.length_cons, RepK.length t]
theorem cd_len : CallD X (.builtin "len") lenD := fun pins s σ H xs us Q I rv ⟨F, ds, d, r, e, g⟩ => by
  unfold lenD at e
  split at e
  · split at e
    · rename_i h
      cases e
      obtain ⟨v, rfl, q0⟩ := r.one
      cases q0
      exact call_len pins s σ H _ us Q I rv ⟨V.str _, _, rfl, And.intro h rfl, g.int⟩
    · cases e
  · cases e
    obtain ⟨v, rfl, q0⟩ := r.one
    cases q0 with
    | lst f q => exact call_len pins s σ H _ us Q I rv ⟨_, _, rfl, .inl ⟨_, f.sq, q.length.symm⟩, g.int⟩
  · cases e
    obtain ⟨v, rfl, q0⟩ := r.one
    cases q0 with
    | tup f q => exact call_len pins s σ H _ us Q I rv ⟨_, _, rfl, .inr ⟨_, f.sq, q.length.symm⟩, g.int⟩
  · cases e
    obtain ⟨v, rfl, q0⟩ := r.one
    cases q0 with
    | dic f q =>
      obtain ⟨u, rfl, ru⟩ := vals1 rv
      cases ru
      refine d_len I f.2 fun t s' I' => ⟨V.int _, H, I', ⟨t, rfl⟩, ?_⟩
      rw [q.length]
      exact g.int
  · cases e
def absD : List D → Option D
  | [.int i] => some (.int (if i < 0 then -i else i))
  | _ => none
theorem cd_abs : CallD X (.builtin "abs") absD := .of call_abs fun H F vs ds d Q r e g => by
  unfold absD at e
  split at e
  · cases e
    obtain ⟨v, rfl, q0⟩ := r.one
    cases q0
    exact ⟨_, rfl, g.int⟩
  · cases e
def intD : List D → Option D
  | [.int i] => some (.int i)
  | [.bool b] => some (.int (if b then 1 else 0))
  | _ => none
theorem cd_int : CallD X (.type "int") intD := .of call_int1 fun H F vs ds d Q r e g => by
  unfold intD at e
  split at e
  · cases e
    obtain ⟨v, rfl, q0⟩ := r.one
    cases q0
    exact .inl ⟨_, rfl, g.int⟩
  · cases e
    obtain ⟨v, rfl, q0⟩ := r.one
    cases q0
    exact .inr ⟨_, rfl, g.int⟩
  · cases e
def strOfD : List D → Option D
  | [.int i] => if i.natAbs.log2 < 1920 then some (.str (toString i)) else none
  | _ => none
theorem cd_str : CallD X (.type "str") strOfD := .of call_str_int fun H F vs ds d Q r e g => by
  unfold strOfD at e
  split at e
  · split at e
    · rename_i h
      cases e
      obtain ⟨v, rfl, q0⟩ := r.one
      cases q0
      exact ⟨_, rfl, h, g.str⟩
    · cases e
  · cases e
def ordD : List D → Option D
  | [.str x] => if x.length = 1 then some (.int (x.cps.getD 0 0 : Nat)) else none
  | _ => none
theorem cd_ord : CallD X (.builtin "ord") ordD := .of call_ord fun H F vs ds d Q r e g => by
  unfold ordD at e
  split at e
  · split at e
    · rename_i h
      cases e
      obtain ⟨v, rfl, q0⟩ := r.one
      cases q0
      exact ⟨_, rfl, h, g.int⟩
    · cases e
  · cases e
def listOfD : List D → Option D
  | [.list x] => some (.list x)
  | [.tuple x] => some (.list x)
  | _ => none
theorem cd_list : CallD X (.type "list") listOfD := .of call_list_of fun H F vs ds d Q r e g => by
  unfold listOfD at e
  split at e
  · cases e
    obtain ⟨v, rfl, q0⟩ := r.one
    cases q0 with
    | lst f q => exact ⟨_, _, rfl, .inl f.sq, g.lst q⟩
  · cases e
    obtain ⟨v, rfl, q0⟩ := r.one
    cases q0 with
    | tup f q => exact ⟨_, _, rfl, .inr f.sq, g.lst q⟩
  · cases e
def tupOfD : List D → Option D
  | [.list x] => some (.tuple x)
  | [.tuple x] => some (.tuple x)
  | _ => none
theorem cd_tuple : CallD X (.type "tuple") tupOfD := .of call_tuple_of fun H F vs ds d Q r e g => by
  unfold tupOfD at e
  split at e
  · cases e
    obtain ⟨v, rfl, q0⟩ := r.one
    cases q0 with
    | lst f q => exact ⟨_, _, rfl, .inl ⟨f.sq, g.tup q⟩⟩
  · cases e
    obtain ⟨v, rfl, q0⟩ := r.one
    cases q0 with
    | tup f q => exact ⟨_, _, rfl, .inr ⟨f.sq, g.same (.tup f q)⟩⟩
  · cases e
/-! ### isinstance -/
def tyD : D → String
  | .none => "NoneType" | .bool _ => "bool" | .int _ => "int" | .str _ => "str" | .list _ => "list" | .tuple _ => "tuple" | .dict _ => "dict"
theorem Rep.tyx {K : PySem.W.Frag} {H : Hp} {F : FA} {v : V} {d : D} (r : Rep K H F v d) : TyX K H v (.type (tyD d)) := by
  cases r with
  | non => exact .base .non
  | bl b => exact .base (.bl b)
  | int i => exact .base (.int i)
  | str x => exact .base (.str x)
  | lst f q => exact .base (.lst f.2)
  | tup f q =>
    rcases f with f | f
    · exact .base (.tup f.2)
    · rcases f with (h | ⟨o, h⟩) | ⟨o, its, n, h1, h2, _⟩
      · cases h
      · cases h
      · exact .kTuple h1 h2
  | dic f q =>
    rcases f.2 with h | ⟨o, h⟩
    · exact .base (.dK h)
    · exact .fDict h
def isiD (T : String) (d : D) : Bool := (kitB (tyD d) T).getD false
def eIsi (T : String) (f : En → Rs D) : En → Rs D := fun env₀ => (bnd f fun d => if (kitB (tyD d) T).isSome = true then ret (.bool (isiD T d)) else fun _ => .bad) env₀
theorem ty_all {P : String → Prop} (h1 : P "NoneType") (h2 : P "bool") (h3 : P "int") (h4 : P "str") (h5 : P "list") (h6 : P "tuple") (h7 : P "dict") (d : D) : P (tyD d) := by cases d <;> assumption
/-- isinstance(a, T) -/
theorem pd_isi {x T : Str} {t : String} {p p2 : Pos} {b : D → Bool} (hk : ∀ d, kitB (tyD d) t = some (b d)) (hg : Gl X x) (hm : X.mg x = none) (hv : bootBuiltins x = some (.builtin "isinstance")) (hgT : Gl X T) (hmT : X.mg T = none) (hvT : bootBuiltins T = some (.type t))
    (h : PE X e (tD (gx X) W f)) (hn : x ≠ "__name__" := by decide) (hdb : (x == ("__debug__" : Str)) = false := by decide) (hnT : T ≠ "__name__" := by decide) (hdbT : (T == ("__debug__" : Str)) = false := by decide)
    (he : starEach [e, .Name T p2] X.env = (false, eval e X.env) :: starEach [.Name T p2] X.env := by rfl) (hpl : (backTo pos (starEach [.Name T p2] X.env)).any (·.1) = false := by rfl)
    (he2 : starEach [.Name T p2] X.env = (false, eval (.Name T p2) X.env) :: starEach [] X.env := by rfl) :
    PE X (.Call (.Name x p) [e, .Name T p2] [] pos) (tD (gx X) W (bnd f fun d => ret (.bool (b d)))) :=
  PE.imp (pe_callB call_isi hg hm hv (pa_cons h (pa_cons (pe_bltn (v := .ty t) hgT hmT hvT rfl hnT hdbT) pa_nil he2) he) hn hdb he hpl) fun σ H Q ⟨env, F, fp, st, h⟩ =>
    ⟨env, F, fp, st, Out.mono h.bind fun d env1 H1 F1 fp1 t1 s1 h1 v r => ⟨v, .ty t, _, _, b d, rfl, .ty t, r.tyx, kit_ty (hk d), h1 H1 F1 fp1 .refl s1 _ (.bl _)⟩⟩
/-- isinstance(a, (T, U)) -/
theorem pd_isi2 {x T U : Str} {t u : String} {p p2 p3 p4 : Pos} {k4} {b c : D → Bool} (hk : ∀ d, kitB (tyD d) t = some (b d)) (hk2 : ∀ d, kitB (tyD d) u = some (c d)) (hg : Gl X x) (hm : X.mg x = none) (hv : bootBuiltins x = some (.builtin "isinstance"))
    (hgT : Gl X T) (hmT : X.mg T = none) (hvT : bootBuiltins T = some (.type t)) (hgU : Gl X U) (hmU : X.mg U = none) (hvU : bootBuiltins U = some (.type u))
    (h : PE X e (tD (gx X) W f)) (hn : x ≠ "__name__" := by decide) (hdb : (x == ("__debug__" : Str)) = false := by decide) (hnT : T ≠ "__name__" := by decide) (hdbT : (T == ("__debug__" : Str)) = false := by decide) (hnU : U ≠ "__name__" := by decide) (hdbU : (U == ("__debug__" : Str)) = false := by decide)
    (he : starEach [e, .Tuple [.Name T p2, .Name U p3] k4 p4] X.env = (false, eval e X.env) :: starEach [.Tuple [.Name T p2, .Name U p3] k4 p4] X.env := by rfl) (hpl : (backTo pos (starEach [.Tuple [.Name T p2, .Name U p3] k4 p4] X.env)).any (·.1) = false := by rfl)
    (he2 : starEach [.Tuple [.Name T p2, .Name U p3] k4 p4] X.env = (false, eval (.Tuple [.Name T p2, .Name U p3] k4 p4) X.env) :: starEach [] X.env := by rfl)
    (he3 : starEach [.Name T p2, .Name U p3] X.env = (false, eval (.Name T p2) X.env) :: starEach [.Name U p3] X.env := by rfl) (he4 : starEach [.Name U p3] X.env = (false, eval (.Name U p3) X.env) :: starEach [] X.env := by rfl) :
    PE X (.Call (.Name x p) [e, .Tuple [.Name T p2, .Name U p3] k4 p4] [] pos) (tD (gx X) W (bnd f fun d => ret (.bool (b d || c d)))) :=
  PE.imp (pe_callB call_isiT hg hm hv (pa_cons h (pa_cons (pe_tup (pa_cons (pe_bltn (v := .ty t) hgT hmT hvT rfl hnT hdbT) (pa_cons (pe_bltn (v := .ty u) hgU hmU hvU rfl hnU hdbU) pa_nil he4) he3)) pa_nil he2) he) hn hdb he hpl) fun σ H Q ⟨env, F, fp, st, h⟩ =>
    ⟨env, F, fp, st, Out.mono h.bind fun d env1 H1 F1 fp1 t1 s1 h1 v r => ⟨show 2 ≤ sizeLine by decide, fun q nq =>
      ⟨v, q, _, _, [.type t, .type u], b d || c d, rfl, upd_same, .cons (.ty t) (.cons (.ty u) .nil), (r.nw (Nw.lay nq)).tyx,
        kitAny_cons (kit_ty (hk d)) (fun z => kitAny_cons (kit_ty (hk2 d)) (fun z2 => by rw [z, z2]; exact kitAny_nil) fun z2 => by rw [z, z2]; rfl) fun z => by rw [z]; rfl,
        h1 _ _ fp1 (Nw.lay nq).tr ((Nw.lay nq).sta s1) _ (.bl _)⟩⟩⟩
/-! ### subscripts -/
def keyOf : D → Option Key
  | .int i => some (.inl i)
  | .str x => some (.inr x)
  | _ => none
theorem keyOf_kD (k : Key) : keyOf (kD k) = some k := by cases k <;> rfl
theorem Rep.key {K : PySem.W.Frag} {H : Hp} {F : FA} {v : V} {d : D} {k : Key} (r : Rep K H F v d) (e : keyOf d = some k) : v = kV k := by
  cases r <;> cases e <;> rfl
def lookK : List (D × D) → Key → Option D
  | [], _ => none
  | (a, b) :: r, k => if keyOf a = some k then some b else lookK r k
theorem RepK.look {K : PySem.W.Frag} {H : Hp} {F : FA} {k : Key} : ∀ {vs : List (Key × V)} {ds : List (D × D)}, RepK K H F vs ds → (∀ d, lookK ds k = some d → ∃ v, valV vs k = some v ∧ Rep K H F v d) ∧ (lookK ds k = none → valV vs k = none)
  | _, _, .nil => ⟨fun d (e : (none : Option D) = some d) => (nomatch e), fun _ => rfl⟩
  | _, _, .cons (k := j) (v := v) (d := d0) (vs := vs) (ds := ds) h t => by
    obtain ⟨i1, i2⟩ := RepK.look (k := k) t
    unfold lookK
    rw [keyOf_kD]
    by_cases e : j = k
    · rw [if_pos (by rw [e]), valV_pos (p := (j, v)) e]
      exact ⟨fun d q => by cases q; exact ⟨_, rfl, h⟩, fun q => by cases q⟩
    · rw [if_neg (fun q => e (Option.some.inj q)), valV_neg (p := (j, v)) e]
      exact ⟨i1, i2⟩
def idxD : D → D → Option D
  | .list ds, .int i => atI ds i
  | .tuple ds, .int i => atI ds i
  | .str z, .int i => if z.length ≤ sizeLine then (atI z.cps.toList i).map fun c => .str ⟨#[c]⟩ else none
  | .dict kvs, d => (keyOf d).bind (lookK kvs)
  | _, _ => none
theorem RepA.at {K : PySem.W.Frag} {H : Hp} {F : FA} {vs : List V} {ds : List D} {i : Int} {d : D} (r : RepA K H F vs ds) (e : atI ds i = some d) : ∃ v, atI vs i = some v ∧ Rep K H F v d := by
  unfold atI at e ⊢
  obtain ⟨j, e1, e2⟩ := Option.bind_eq_some_iff.mp e
  obtain ⟨v, e3, q⟩ := r.get e2
  exact ⟨v, by rw [r.length, e1]; exact e3, q⟩
theorem ix_dict (hu : X.A.units + 1 < cLine) : IxR X (fun x y H Q => ∃ a v, x = .ref a ∧ DGet H a y (some v) ∧ Q v H) := by
  intro value slice pins s σ H x y v u Q I rx ry h hs
  obtain ⟨a, z, rfl, g, q⟩ := h
  cases rx
  exact tail_any (dict_typeIs I g) PySem.F.slot_dict_getitem.lookup (d_getItem hu I g ry fun w' s3 I3 rw' => ⟨z, H, I3, rw', q⟩) hs
theorem ix_any (hu : X.A.units + 1 < cLine) : IxR X (fun x y H Q => ∃ F d1 d2 d, Rep X.K H F x d1 ∧ Rep X.K H F y d2 ∧ idxD d1 d2 = some d ∧ Gv X.K H F d Q) := by
  intro value slice pins s σ H x y v u Q I rx ry h hs
  obtain ⟨F, d1, d2, d, r1, r2, e, g⟩ := h
  unfold idxD at e
  split at e
  · cases r1 with
    | lst f q =>
      cases r2
      obtain ⟨z, e1, q1⟩ := q.at e
      exact ix_list value slice pins s σ H _ _ v u Q I rx ry ⟨_, _, _, _, rfl, rfl, f.sq, e1, g.same q1⟩ hs
  · cases r1 with
    | tup f q =>
      cases r2
      obtain ⟨z, e1, q1⟩ := q.at e
      exact ix_tup value slice pins s σ H _ _ v u Q I rx ry ⟨_, _, _, _, rfl, rfl, f.sq, e1, g.same q1⟩ hs
  · split at e
    · rename_i hz
      cases r1
      cases r2
      obtain ⟨c, e1, rfl⟩ := Option.map_eq_some_iff.mp e
      exact ix_str value slice pins s σ H _ _ v u Q I rx ry ⟨_, _, _, rfl, rfl, hz, e1, g.str⟩ hs
    · cases e
  · cases r1 with
    | dic f q =>
      obtain ⟨k, e1, e2⟩ := Option.bind_eq_some_iff.mp e
      obtain ⟨z, e3, q3⟩ := (q.look (k := k)).1 _ e2
      exact ix_dict hu value slice pins s σ H _ _ v u Q I rx ry ⟨_, z, rfl, .inl ⟨_, k, f.2, r2.key e1, e3.symm⟩, g.same q3⟩ hs
  · cases e
theorem pd_ix {a b : Expr} {p q : En → Rs D} (hu : X.A.units + 1 < cLine) (ha : PE X a (tD (gx X) W p)) (hb : PE X b (tD (gx X) W q)) (hs : PlainIx b) : PE X (.Subscript a b pos) (tD (gx X) W (eBin idxD p q)) :=
  PE.imp (pe_ix (ix_any hu) ha hb hs) fun σ H Q h => tD_two h
/-! ### slices -/
def cutA {α : Type} (xs : List α) (lo hi : Option Int) : List α := (xs.drop (HT.sIx xs.length 0 lo)).take (HT.sIx xs.length xs.length hi - HT.sIx xs.length 0 lo)
theorem cutA_all {α : Type} {ds : List α} {lo hi : Option Int} (z1 : HT.sIx ds.length 0 lo = 0) (z2 : HT.sIx ds.length ds.length hi = ds.length) : cutA ds lo hi = ds := by
  unfold cutA
  rw [z1, z2]
  simp
theorem RepA.cut {K : PySem.W.Frag} {H : Hp} {F : FA} {vs : List V} {ds : List D} (r : RepA K H F vs ds) (lo hi : Option Int) : RepA K H F (cutV vs lo hi) (cutA ds lo hi) := by
  unfold cutV cutA
  rw [r.length]
  exact (r.drop _).take _
def slD (lo hi : Option Int) : D → Option D
  | .list ds => some (.list (cutA ds lo hi))
  | .tuple ds => some (.tuple (cutA ds lo hi))
  | .str z => if z.length ≤ sizeLine then some (.str (cutS z lo hi)) else none
  | _ => none
theorem sl_any : SlR X (fun x lo hi H Q => ∃ F d1 d, Rep X.K H F x d1 ∧ slD lo hi d1 = some d ∧ Gv X.K H F d Q) := by
  intro pins s σ H x v vl vu lo hi sl Q I rx hs pl pu h
  obtain ⟨F, d1, d, r1, e, g⟩ := h
  unfold slD at e
  split at e
  · cases e
    cases r1 with
    | lst f q => exact sl_list pins s σ H _ v vl vu lo hi sl Q I rx hs pl pu ⟨_, _, rfl, f.sq, g.lst (q.cut lo hi)⟩
  · cases e
    cases r1 with
    | tup f q =>
      refine sl_tupA pins s σ H _ v vl vu lo hi sl Q I rx hs pl pu ⟨_, _, rfl, f.sq, fun ⟨z1, z2⟩ => g.same ?_, fun _ => g.tup (q.cut lo hi)⟩
      rw [cutA_all (by rw [← q.length]; exact z1) (by rw [← q.length]; exact z2)]
      exact .tup f q
  · split at e
    · rename_i hz
      cases e
      cases r1
      exact sl_str pins s σ H _ v vl vu lo hi sl Q I rx hs pl pu ⟨_, rfl, hz, g.str⟩
    · cases e
  · cases e
def tPt (G : Gx) (W : WX) (f : En → Rs (Option Int)) : TO := fun σ H Q => ∃ env F fp, Sta G.K H F σ env fp ∧ Out G W σ fp H F (f env) fun d _ H' _ _ => Q d H'
theorem PO.imp {o : Option Expr} {t t' : TO} (h : PO X o t) (k : ∀ σ H Q, t' σ H Q → t σ H Q) : PO X o t' := ⟨fun pins s σ H Q I w => h.run pins s σ H Q I (k σ H Q w)⟩
def ixI : D → Option (Option Int)
  | .int i => some (some i)
  | _ => none
def ePart (f : En → Rs D) : En → Rs (Option Int) := fun env₀ => (bnd f fun d => lift (ixI d)) env₀
theorem pod_none : PO X none (tPt (gx X) W (ret none)) := PO.imp po_none fun σ H Q ⟨env, F, fp, st, h⟩ => h H F fp .refl st
theorem pod_some (h : PE X e (tD (gx X) W f)) : PO X (some e) (tPt (gx X) W (ePart f)) := PO.imp (po_some h) fun σ H Q ⟨env, F, fp, st, h⟩ => by
  refine ⟨env, F, fp, st, Out.mono h.bind fun d env1 H1 F1 fp1 t1 s1 h1 v r => ?_⟩
  obtain ⟨o, e, h2⟩ := h1.lift
  unfold ixI at e
  split at e
  · cases e; cases r; exact ⟨_, rfl, h2 H1 F1 fp1 .refl s1⟩
  · cases e
def eSl (f : En → Rs D) (l u : En → Rs (Option Int)) : En → Rs D := fun env₀ => (bnd f fun d => bnd l fun lo => bnd u fun hi => lift (slD lo hi d)) env₀
theorem pd_sl {lo hi : Option Expr} {l u : En → Rs (Option Int)} {p2 : Pos} (he : PE X e (tD (gx X) W f)) (hl : PO X lo (tPt (gx X) W l)) (hh : PO X hi (tPt (gx X) W u)) : PE X (.Subscript e (.Slice lo hi none p2) pos) (tD (gx X) W (eSl f l u)) :=
  PE.imp (pe_slice sl_any he hl hh) fun σ H Q ⟨env, F, fp, st, h⟩ => by
    refine ⟨env, F, fp, st, Out.mono h.bind fun d env1 H1 F1 fp1 t1 s1 h1 v r => ?_⟩
    refine ⟨env1, F1, fp1, s1, Out.mono h1.bind fun lo env2 H2 F2 fp2 t2 s2 h2 => ?_⟩
    refine ⟨env2, F2, fp2, s2, Out.mono h2.bind fun hi env3 H3 F3 fp3 t3 s3 h3 => ?_⟩
    obtain ⟨z, ez, h4⟩ := h3.lift
    exact ⟨F3, d, z, (r.tr s1.re t2).tr s2.re t3, ez, fun v H' F' n r => h4 H' F' fp3 n.tr (n.sta s3) v r⟩
/-- xs[::-1] -/
def revD : D → Option D
  | .list ds => some (.list ds.reverse)
  | _ => none
theorem RepA.reverse {K : PySem.W.Frag} {H : Hp} {F : FA} : ∀ {vs : List V} {ds : List D}, RepA K H F vs ds → RepA K H F vs.reverse ds.reverse
  | _, _, .nil => .nil
  | _, _, .cons h t => by
    rw [List.reverse_cons, List.reverse_cons]
    exact (RepA.reverse t).append (.cons h .nil)
theorem pd_rev {k : Nat} {p1 p2 p3 : Pos} (he : PE X e (tD (gx X) W f)) : PE X (.Subscript e (.Slice none none (some (.UnaryOp .USub (.Constant (.int 1) k p1) p2)) p3) pos) (tD (gx X) W (eUn revD f)) := PE.imp (pe_revL he) fun σ H Q h => by
  refine tD_imp (tD_un h) fun v H1 ⟨F1, d1, d, r, ed, g⟩ => ?_
  unfold revD at ed
  split at ed
  · cases ed
    cases r with
    | lst f q => exact ⟨_, _, rfl, f.sq, g.lst q.reverse⟩
  · cases ed
/-! ### text methods -/
def strD : D → Option Str
  | .str x => some x
  | _ => none
def eM1 (op : Str → D → Option D) (f g : En → Rs D) : En → Rs D := fun env₀ => (bnd f fun a => bnd (lift (strD a)) fun x => bnd g fun b => lift (op x b)) env₀
theorem pd_m1 {id : String} {name : Str} {apos : Pos} {o : Expr} {op : Str → D → Option D} {p : En → Rs D} (slot : Slot "str" name id) (ty : typeOf (.builtin id) = pure (.type "method_descriptor"))
    (rule : MtR X id (fun x xs H Q => ∃ F a y b d, x = .str a ∧ xs = [y] ∧ Rep X.K H F y b ∧ op a b = some d ∧ Gv X.K H F d Q)) (ho : PE X o (tD (gx X) W p)) (he : PE X e (tD (gx X) W f))
    (hs : starEach [e] X.env = [(false, eval e X.env)] := by rfl) (hbase : attributeBase o name X.env (eval o X.env) = eval o X.env := by rfl) (hline : (apos.endLine == pos.line) = true := by rfl) :
    PE X (.Call (.Attribute o name apos) [e] [] pos) (tD (gx X) W (eM1 op p f)) := PE.imp (pe_m1 slot ty rule ho he hs hbase hline) fun σ H Q ⟨env, F, fp, st, h⟩ => by
  refine ⟨env, F, fp, st, Out.mono h.bind fun a env1 H1 F1 fp1 t1 s1 h1 v r => ?_⟩
  obtain ⟨x, ex, h2⟩ := h1.bind.lift
  unfold strD at ex
  split at ex
  · cases ex
    cases r
    refine ⟨⟨_, rfl⟩, env1, F1, fp1, s1, Out.mono (h2 H1 F1 fp1 .refl s1).bind fun b env3 H3 F3 fp3 t3 s3 h3 y ry => ?_⟩
    obtain ⟨d, ed, h4⟩ := h3.lift
    exact ⟨F3, _, y, b, d, rfl, rfl, ry, ed, fun v H' F' n r => h4 H' F' fp3 n.tr (n.sta s3) v r⟩
  · cases ex
def strsD : List D → Option (List Str)
  | [] => some []
  | .str x :: r => (strsD r).map (x :: ·)
  | _ :: _ => none
theorem RepA.strs {K : PySem.W.Frag} {H : Hp} {F : FA} : ∀ {vs : List V} {ds : List D} {ys : List Str}, RepA K H F vs ds → strsD ds = some ys → vs = ys.map V.str
  | _, _, _, .nil, e => by cases e; rfl
  | _, _, _, .cons h t, e => by
    unfold strsD at e
    split at e
    · rename_i q; cases q
    · rename_i q
      cases q
      obtain ⟨zs, e1, rfl⟩ := Option.map_eq_some_iff.mp e
      cases h
      rw [RepA.strs t e1]; rfl
    · cases e
def joinD (a : Str) : D → Option D
  | .list ds => (strsD ds).bind fun ys => if (ys.map (·.length)).sum + ys.length * a.length ≤ 16777216 then some (.str (Txt.join a ys)) else none
  | .tuple ds => (strsD ds).bind fun ys => if (ys.map (·.length)).sum + ys.length * a.length ≤ 16777216 then some (.str (Txt.join a ys)) else none
  | _ => none
theorem md_join : MtR X "str.join" (fun x xs H Q => ∃ F a y b d, x = .str a ∧ xs = [y] ∧ Rep X.K H F y b ∧ joinD a b = some d ∧ Gv X.K H F d Q) := by
  intro pins s σ H x xs v us Q I rx rs h
  obtain ⟨F, a, y, b, d, rfl, rfl, r, e, g⟩ := h
  unfold joinD at e
  split at e
  · obtain ⟨ys, e1, e2⟩ := Option.bind_eq_some_iff.mp e
    split at e2
    · rename_i hz
      cases e2
      cases r with
      | lst f q => cases q.strs e1; exact mt_join pins s σ H _ _ v us Q I rx rs ⟨_, _, ys, rfl, rfl, .inl f.sq, hz, g.str⟩
    · cases e2
  · obtain ⟨ys, e1, e2⟩ := Option.bind_eq_some_iff.mp e
    split at e2
    · rename_i hz
      cases e2
      cases r with
      | tup f q => cases q.strs e1; exact mt_join pins s σ H _ _ v us Q I rx rs ⟨_, _, ys, rfl, rfl, .inr f.sq, hz, g.str⟩
    · cases e2
  · cases e
end
end VH
set_option Elab.async false
set_option linter.all false
set_option maxRecDepth 100000
set_option maxHeartbeats 4000000
namespace VH
open PySem PySem.Spec PyProof.Rows L2

/-! ### owned values -/
def Dj (f g : List Addr) : Prop := ∀ a ∈ f, a ∉ g
def OutO (G : Gx) (W : WX) (σ : Sg) (fp : List Addr) (H : Hp) (F : FA) (r : Rs O) (P : O → En → Hp → FA → List Addr → V → List Addr → Prop) : Prop := match r with
  | .ok o env => ∀ H' F' fp' v fr, Tr fp H F H' F' (fr ++ fp') → Sta G.K H' F' σ env fp' → RO G.K H' F' v o fr → Dj fr fp' → P o env H' F' fp' v fr
  | .exc x env => ∀ H' F' fp' c o, Tr fp H F H' F' fp' → Sta G.K H' F' σ env fp' → RX G H' F' c o x → W c o σ H'
  | .bad => False
def tO (G : Gx) (W : WX) (f : En → Rs O) : TE := fun σ H Q => ∃ env F fp, Sta G.K H F σ env fp ∧ OutO G W σ fp H F (f env) fun _ _ H' _ _ v _ => Q v H'
section
variable {G : Gx} {W : WX} {σ : Sg} {fp : List Addr} {H : Hp} {F : FA}
theorem OutO.mono {r : Rs O} {P P' : O → En → Hp → FA → List Addr → V → List Addr → Prop} (h : OutO G W σ fp H F r P)
    (k : ∀ o env H' F' fp' v fr, Tr fp H F H' F' (fr ++ fp') → Sta G.K H' F' σ env fp' → RO G.K H' F' v o fr → Dj fr fp' → P o env H' F' fp' v fr → P' o env H' F' fp' v fr) : OutO G W σ fp H F r P' := by
  cases r with
  | ok a env => exact fun H' F' fp' v fr t s q d => k a env H' F' fp' v fr t s q d (h H' F' fp' v fr t s q d)
  | exc x env => exact h
  | bad => exact h
/-- behind plain work an owned value -/
theorem OutO.bind {α : Type} {f : En → Rs α} {g : α → En → Rs O} {env : En} {P : O → En → Hp → FA → List Addr → V → List Addr → Prop} (h : OutO G W σ fp H F (bnd f g env) P) :
    Out G W σ fp H F (f env) fun a env1 H1 F1 fp1 => OutO G W σ fp1 H1 F1 (g a env1) P := by
  unfold bnd at h
  cases e : f env with
  | ok a env1 =>
    rw [e] at h
    intro H1 F1 fp1 t1 s1
    replace h : OutO G W σ fp H F (g a env1) P := h
    cases e2 : g a env1 with
    | ok b env2 =>
      rw [e2] at h
      exact fun H2 F2 fp2 v fr t2 s2 => h H2 F2 fp2 v fr (t1.trans t2) s2
    | exc x env2 =>
      rw [e2] at h
      exact fun H2 F2 fp2 c o t2 s2 rx => h H2 F2 fp2 c o (t1.trans t2) s2 rx
    | bad => rw [e2] at h; exact h
  | exc x env1 => rw [e] at h; exact h
  | bad => rw [e] at h; exact h
/-- behind an owned value more work; the value stays beside -/
theorem Out.bindO {β : Type} {f : En → Rs O} {g : O → En → Rs β} {env : En} {P : β → En → Hp → FA → List Addr → Prop} (h : Out G W σ fp H F (bnd f g env) P) :
    OutO G W σ fp H F (f env) fun a env1 H1 F1 fp1 v fr => Out G W σ (fr ++ fp1) H1 F1 (g a env1) P := by
  unfold bnd at h
  cases e : f env with
  | ok a env1 =>
    rw [e] at h
    intro H1 F1 fp1 v fr t1 s1 r d
    replace h : Out G W σ fp H F (g a env1) P := h
    cases e2 : g a env1 with
    | ok b env2 =>
      rw [e2] at h
      exact fun H2 F2 fp2 t2 s2 => h H2 F2 fp2 (t1.trans t2) s2
    | exc x env2 =>
      rw [e2] at h
      exact fun H2 F2 fp2 c o t2 s2 rx => h H2 F2 fp2 c o (t1.trans t2) s2 rx
    | bad => rw [e2] at h; exact h
  | exc x env1 => rw [e] at h; exact h
  | bad => rw [e] at h; exact h
theorem Tr.more {fp fp' g : List Addr} {H H' : Hp} {F F' : FA} (t : Tr fp H F H' F' fp') : Tr (g ++ fp) H F H' F' fp' :=
  ⟨fun a u e n => t.keep a u e fun q => n (List.mem_append_right _ q), t.froz, fun a q => (t.new a q).imp (List.mem_append_right _) id⟩
theorem Tr.moreR {fp fp' g : List Addr} {H H' : Hp} {F F' : FA} (t : Tr fp H F H' F' fp') : Tr (g ++ fp) H F H' F' (g ++ fp') :=
  ⟨fun a u e n => t.keep a u e fun q => n (List.mem_append_right _ q), t.froz, fun a q => (List.mem_append.mp q).elim (fun q => .inl (List.mem_append_left _ q)) fun q => (t.new a q).imp (List.mem_append_right _) id⟩
theorem Tr.less {fp fp' g : List Addr} {H H' : Hp} {F F' : FA} (t : Tr fp H F H' F' fp') (h : ∀ a ∈ g, a ∈ fp') : Tr fp H F H' F' g := ⟨t.keep, t.froz, fun a q => t.new a (h a q)⟩
theorem Fo.frz {fr : List Addr} (h : Fo H F) (k : ∀ a ∈ fr, ∃ u, H a = some u) : Fo H (fun a => F a ∨ a ∈ fr) := fun a q => q.elim (h a) (k a)
/-- an owned value beside the environment is frozen -/
theorem frz_beside {K : PySem.W.Frag} {env : En} {v : V} {o : O} {fr : List Addr} (st : Sta K H F σ env fp) (r : RO K H F v o fr) (d : Dj fr fp) (hb : o.fzb = true) :
    Tr (fr ++ fp) H F H (fun a => F a ∨ a ∈ fr) fp ∧ Sta K H (fun a => F a ∨ a ∈ fr) σ env fp ∧ Rep K H (fun a => F a ∨ a ∈ fr) v (fz o) := by
  have hF : ∀ a, F a → (F a ∨ a ∈ fr) := fun a q => .inl q
  refine ⟨⟨fun a u e n => ⟨e, fun q => q.elim id fun q => absurd (List.mem_append_left _ q) n⟩, hF, fun a q => .inl (List.mem_append_right _ q)⟩, ⟨?_, st.fo.frz fun a q => (r.trk a q).1⟩, r.freeze hF (fun a q => .inr q) hb⟩
  exact st.re.mono ⟨fun _ _ _ h _ _ => h, fun _ _ _ h => h, hF⟩ fun a q => ⟨rfl, fun z => z.elim id fun z => absurd q (d a z)⟩
end
def eSh (f : En → Rs D) : En → Rs O := fun env₀ => (bnd f fun d => ret (.sh d)) env₀
def eFz (f : En → Rs O) : En → Rs D := fun env₀ => (bnd f fun o env => if o.fzb = true then .ok (fz o) env else .bad) env₀
section
variable {X : Cx} {W : WX} {e : Expr}
theorem po_sh {f : En → Rs D} (h : PE X e (tD (gx X) W f)) : PE X e (tO (gx X) W (eSh f)) := PE.imp h fun σ H Q ⟨env, F, fp, st, h⟩ =>
  ⟨env, F, fp, st, Out.mono h.bind fun d env1 H1 F1 fp1 t1 s1 h1 v r => h1 H1 F1 fp1 v [] Tr.refl s1 (.sh r) fun _ q => nomatch q⟩
theorem pd_fz {f : En → Rs O} (h : PE X e (tO (gx X) W f)) : PE X e (tD (gx X) W (eFz f)) := PE.imp h fun σ H Q ⟨env, F, fp, st, h⟩ => by
  refine ⟨env, F, fp, st, OutO.mono h.bindO fun o env1 H1 F1 fp1 v fr t1 s1 r d h1 => ?_⟩
  split at h1
  · rename_i hb
    obtain ⟨z1, z2, z3⟩ := frz_beside s1 r d hb
    exact h1 H1 _ fp1 z1 z2 v z3
  · exact h1.elim
/-- a slot's own thing goes -/
def eMov (i : Nat) : En → Rs O := fun env => match env[i]? with
  | some (some o) => .ok o (env.set i none)
  | _ => .bad
theorem pv_of {i : Nat} {σ : Sg} {env : En} {K : PySem.W.Frag} {H : Hp} {F : FA} {fp : List Addr} {o : O} (st : REnv K H F σ env fp) (h : env[i]? = some (some o)) :
    ∃ v f1 fr, σ[i]? = some (some v) ∧ RO K H F v o f1 ∧ (∀ a, a ∈ fp ↔ a ∈ f1 ∨ a ∈ fr) ∧ Dj f1 fr ∧
      ∀ (H' : Hp) (F' : FA) (v' : Option V) (o' : Option O) (f1' : List Addr), Stb H F H' F' → Sm fr H F H' F' → RS K H' F' v' o' f1' → Dj f1' fr →
        ∃ fp', REnv K H' F' (σ.set i v') (env.set i o') fp' ∧ ∀ a, a ∈ fp' ↔ a ∈ f1' ∨ a ∈ fr := by
  have hi : i < env.length := (List.getElem?_eq_some_iff.mp h).1
  obtain ⟨v, o', f1, fr, e1, e2, rs, hm, hd, hk⟩ := st.split i hi
  rw [h] at e2
  cases e2
  cases rs with
  | yes r => exact ⟨_, f1, fr, e1, r, hm, hd, hk⟩
/-- the slot stays, its thing is taken out -/
theorem take_slot {i : Nat} {σ : Sg} {env : En} {K : PySem.W.Frag} {H : Hp} {F : FA} {fp : List Addr} {o : O} (st : REnv K H F σ env fp) (h : env[i]? = some (some o)) :
    ∃ v f1 fp', σ[i]? = some (some v) ∧ RO K H F v o f1 ∧ REnv K H F σ (env.set i none) fp' ∧ (∀ a, a ∈ fp ↔ a ∈ f1 ∨ a ∈ fp') ∧ Dj f1 fp' := by
  obtain ⟨v, f1, fr, e1, r, hm, hd, hk⟩ := pv_of st h
  obtain ⟨fp', re, hm'⟩ := hk H F (some v) none [] .refl (fun _ _ => ⟨rfl, id⟩) .no (fun _ q => nomatch q)
  rw [set_get e1] at re
  have hm2 : ∀ a, a ∈ fp' ↔ a ∈ fr := fun a => by rw [hm' a]; simp
  exact ⟨v, f1, fp', e1, r, re, fun a => by rw [hm a, hm2 a], fun a q z => hd a q ((hm2 a).mp z)⟩
/-- a thing is put into a slot -/
theorem put_slot {i : Nat} {σ : Sg} {env : En} {K : PySem.W.Frag} {H : Hp} {F : FA} {fp fr : List Addr} {v : V} {o : O} (st : REnv K H F σ env fp) (hi : i < env.length) (r : RO K H F v o fr) (d : Dj fr fp) :
    ∃ fp', REnv K H F (σ.set i (some v)) (env.set i (some o)) fp' ∧ ∀ a ∈ fp', a ∈ fr ++ fp := by
  obtain ⟨v0, o0, f1, f2, e1, e2, rs, hm, hd, hk⟩ := st.split i hi
  obtain ⟨fp', re, hm'⟩ := hk H F (some v) (some o) fr .refl (fun _ _ => ⟨rfl, id⟩) (.yes r) fun a q z => d a q ((hm a).mpr (.inr z))
  exact ⟨fp', re, fun a q => ((hm' a).mp q).elim (fun q => List.mem_append_left _ q) fun q => List.mem_append_right _ ((hm a).mpr (.inr q))⟩
theorem po_mov (i : Nat) {x : Str} {pos : Pos} (hN : X.N[i]? = some x := by rfl) (hv : Vis X.env.scope x := by first | exact Or.inl rfl | exact Or.inr (Or.inl rfl) | exact Or.inr (Or.inr rfl)) (hd : (x == ("__debug__" : Str)) = false := by decide)
    (hcd : (x == ("__classdict__" : Str)) = false := by decide) : PE X (.Name x pos) (tO (gx X) W (eMov i)) := by
  refine PE.imp (pe_var hN hv hd hcd) fun σ H Q ⟨env, F, fp, st, h⟩ => ?_
  unfold eMov at h
  split at h
  · rename_i o he
    obtain ⟨v, f1, fp', e1, r, re, hm, hd⟩ := take_slot st.re he
    exact ⟨v, e1, h H F fp' v f1 (Tr.refl.less fun a q => (hm a).mpr ((List.mem_append.mp q).imp id id)) ⟨re, st.fo⟩ r hd⟩
  · exact h.elim
/-! ### new owned things -/
theorem own_new {K : PySem.W.Frag} {H : Hp} {F : FA} {σ : Sg} {env : En} {fp : List Addr} {p : Addr} {ob : HO} (st : Sta K H F σ env fp) (np : H p = none) :
    Tr fp H F (upd H p ob) F ([p] ++ fp) ∧ Sta K (upd H p ob) F σ env fp ∧ ¬ F p ∧ Dj [p] fp ∧ Stb H F (upd H p ob) F := by
  have nF : ¬ F p := fun q => by
    obtain ⟨u, e⟩ := st.fo p q
    rw [np] at e; cases e
  have hk : ∀ a u, H a = some u → (upd H p ob) a = some u := fun a u e => by rw [upd_ne (ne_of_none e np)]; exact e
  have sb : Stb H F (upd H p ob) F := ⟨fun a u _ e _ _ => hk a u e, fun a u _ e => e.imp (hk a _) fun ⟨o, z⟩ => ⟨o, hk a _ z⟩, fun _ h => h⟩
  refine ⟨⟨fun a u e _ => ⟨hk a u e, id⟩, fun _ h => h, fun a q => ?_⟩, ⟨st.re.mono sb fun a q => ?_, fun a q => ?_⟩, nF, fun a q z => ?_, sb⟩
  · rcases List.mem_append.mp q with q | q
    · rw [List.mem_singleton.mp q]; exact .inr np
    · exact .inl q
  · obtain ⟨⟨u, e⟩, f⟩ := st.re.trk a q
    exact ⟨by rw [upd_ne (ne_of_none e np)], id⟩
  · obtain ⟨u, e⟩ := st.fo a q
    exact ⟨u, hk a u e⟩
  · rw [List.mem_singleton.mp q] at z
    obtain ⟨⟨u, e⟩, _⟩ := st.re.trk p z
    rw [np] at e; cases e
def oLst (g : En → Rs (List D)) : En → Rs O := fun env₀ => (bnd g fun ds env => if ds.length ≤ 1000 then .ok (.lst ds) env else .bad) env₀
theorem po_lst {es : List Expr} {g : En → Rs (List D)} {pos : Pos} (h : PA X es (tAs (gx X) W g)) : PE X (.List es pos) (tO (gx X) W (oLst g)) := PE.imp (pe_lst h) fun σ H Q ⟨env, F, fp, st, h⟩ => by
  refine ⟨env, F, fp, st, Out.mono (OutO.bind h) fun ds env1 H1 F1 fp1 t1 s1 h1 vs rs => ?_⟩
  split at h1
  · rename_i hl
    refine ⟨by rw [rs.length]; exact le_line hl, fun p np => ?_⟩
    obtain ⟨z1, z2, z3, z4, z5⟩ := own_new (ob := .lst vs) s1 np
    exact h1 _ F1 fp1 (.ref p) [p] z1 z2 (.lst upd_same z3 (rs.mono z5)) z4
  · exact h1.elim
/-- a + b, a new list one's own -/
def oAdd (fa fb : En → Rs D) : En → Rs O := fun env₀ => (bnd fa fun x => bnd fb fun y env => match x, y with
  | .list a, .list b => if a.length + b.length ≤ sizeLine then .ok (.lst (a ++ b)) env else .bad
  | _, _ => .bad) env₀
theorem po_add {a b : Expr} {fa fb : En → Rs D} {pos : Pos} (ha : PE X a (tD (gx X) W fa)) (hb : PE X b (tD (gx X) W fb)) : PE X (.BinOp a .Add b pos) (tO (gx X) W (oAdd fa fb)) := PE.imp (pe_op op_cat ha hb) fun σ H Q ⟨env, F, fp, st, h⟩ => by
  refine ⟨env, F, fp, st, Out.mono (OutO.bind h) fun x env1 H1 F1 fp1 t1 s1 h1 v1 r1 => ?_⟩
  refine ⟨env1, F1, fp1, s1, Out.mono (OutO.bind h1) fun y env2 H2 F2 fp2 t2 s2 h2 v2 r2 => ?_⟩
  have r1 := r1.tr s1.re t2
  split at h2
  · split at h2
    · rename_i hl
      cases r1 with
      | lst f1 q1 => cases r2 with
        | lst f2 q2 =>
          refine ⟨_, _, _, _, rfl, rfl, f1.2, f2.2, by rw [q1.length, q2.length]; exact hl, fun p np => ?_⟩
          obtain ⟨z1, z2, z3, z4, z5⟩ := own_new (ob := .lst _) s2 np
          exact h2 _ F2 fp2 (.ref p) [p] z1 z2 (.lst upd_same z3 ((q1.append q2).mono z5)) z4
    · exact h2.elim
  · exact h2.elim
def oIf (c : En → Rs Bool) (f g : En → Rs O) : En → Rs O := fun env₀ => (bnd c fun b env => if b = true then f env else g env) env₀
theorem po_if {c a b : Expr} {fc : En → Rs Bool} {p q : En → Rs O} {pos : Pos} (hc : PT X c (tT (gx X) W fc)) (ha : PE X a (tO (gx X) W p)) (hb : PE X b (tO (gx X) W q)) : PE X (.IfExp c a b pos) (tO (gx X) W (oIf fc p q)) := PE.imp (pe_ifExp hc ha hb) fun σ H Q ⟨env, F, fp, st, h⟩ => by
  refine ⟨env, F, fp, st, Out.mono (OutO.bind h) fun b env1 H1 F1 fp1 t1 s1 h1 => ?_⟩
  cases b with
  | true => exact iteT ⟨env1, F1, fp1, s1, h1⟩
  | false => exact iteF ⟨env1, F1, fp1, s1, h1⟩
/-- list(x), a new list one's own -/
def oList (f : En → Rs D) : En → Rs O := fun env₀ => (bnd f fun d env => match d with
  | .list a => .ok (.lst a) env
  | .tuple a => .ok (.lst a) env
  | _ => .bad) env₀
theorem po_list {x : Str} {p pos : Pos} {f : En → Rs D} (hg : Gl X x) (hm : X.mg x = none) (hv : bootBuiltins x = some (.type "list")) (ha : PE X e (tD (gx X) W f))
    (hn : x ≠ "__name__" := by decide) (hdb : (x == ("__debug__" : Str)) = false := by decide) (he : starEach [e] X.env = (false, eval e X.env) :: starEach [] X.env := by rfl) :
    PE X (.Call (.Name x p) [e] [] pos) (tO (gx X) W (oList f)) := PE.imp (pe_callTy call_list_of hg hm hv (pa_cons ha pa_nil he) hn hdb he) fun σ H Q ⟨env, F, fp, st, h⟩ => by
  refine ⟨env, F, fp, st, Out.mono (OutO.bind h) fun d env1 H1 F1 fp1 t1 s1 h1 v r => ?_⟩
  split at h1
  · cases r with
    | lst f q =>
      refine ⟨_, _, rfl, .inl f.sq, fun p np => ?_⟩
      obtain ⟨z1, z2, z3, z4, z5⟩ := own_new (ob := .lst _) s1 np
      exact h1 _ F1 fp1 (.ref p) [p] z1 z2 (.lst upd_same z3 (q.mono z5)) z4
  · cases r with
    | tup f q =>
      refine ⟨_, _, rfl, .inr f.sq, fun p np => ?_⟩
      obtain ⟨z1, z2, z3, z4, z5⟩ := own_new (ob := .lst _) s1 np
      exact h1 _ F1 fp1 (.ref p) [p] z1 z2 (.lst upd_same z3 (q.mono z5)) z4
  · exact h1.elim
/-! ### dict displays -/
def ePairs : List ((En → Rs D) × (En → Rs D)) → En → Rs (List (D × D))
  | [] => ret []
  | (k, v) :: r => bnd k fun a => bnd v fun b => bnd (ePairs r) fun ps => ret ((a, b) :: ps)
def keysD : List (D × D) → Option (List (Key × D))
  | [] => some []
  | (a, b) :: r => match keyOf a, keysD r with
    | some k, some ks => some ((k, b) :: ks)
    | _, _ => none
def putD (kvs : List (Key × D)) (k : Key) (v : D) : List (Key × D) :=
  if (kvs.any fun kv => decide (kv.1 = k)) = true then kvs.map (fun kv => if kv.1 = k then (kv.1, v) else kv) else kvs ++ [(k, v)]
def mergeD (kvs : List (Key × D)) : List (Key × D) → List (Key × D)
  | [] => kvs
  | p :: r => mergeD (putD kvs p.1 p.2) r
def shK (kvs : List (Key × D)) : List (Key × O) := kvs.map fun p => (p.1, .sh p.2)
def oDic (ps : List ((En → Rs D) × (En → Rs D))) : En → Rs O := fun env₀ => (bnd (ePairs ps) fun l env => match keysD l with
  | some ks => if ks.length ≤ 15 then .ok (.dic (shK (mergeD [] ks))) env else .bad
  | none => .bad) env₀
end
end VH
set_option Elab.async false
set_option linter.all false
set_option maxRecDepth 100000
set_option maxHeartbeats 4000000
namespace VH
open PySem PySem.Spec PyProof.Rows L2

/-! ### dict displays -/
inductive RepP (K : PySem.W.Frag) (H : Hp) (F : FA) : List (V × V) → List (D × D) → Prop
  | nil : RepP K H F [] []
  | cons {x y : V} {a b : D} {vs : List (V × V)} {ds : List (D × D)} : Rep K H F x a → Rep K H F y b → RepP K H F vs ds → RepP K H F ((x, y) :: vs) ((a, b) :: ds)
inductive RK (K : PySem.W.Frag) (H : Hp) (F : FA) : List (Key × V) → List (Key × D) → Prop
  | nil : RK K H F [] []
  | cons {k : Key} {v : V} {d : D} {vs : List (Key × V)} {ds : List (Key × D)} : Rep K H F v d → RK K H F vs ds → RK K H F ((k, v) :: vs) ((k, d) :: ds)
theorem RK.mono {K : PySem.W.Frag} {H H' : Hp} {F F' : FA} (s : Stb H F H' F') : ∀ {v : List (Key × V)} {d : List (Key × D)}, RK K H F v d → RK K H' F' v d
  | _, _, .nil => .nil
  | _, _, .cons h t => .cons (h.mono s) (RK.mono s t)
theorem RepP.keys {K : PySem.W.Frag} {H : Hp} {F : FA} : ∀ {vs : List (V × V)} {ds : List (D × D)} {ks : List (Key × D)}, RepP K H F vs ds → keysD ds = some ks → ∃ kvs : List (Key × V), vs = kvs.map (fun kv => (kV kv.1, kv.2)) ∧ RK K H F kvs ks ∧ kvs.length = ks.length
  | _, _, _, .nil, e => by cases e; exact ⟨[], rfl, .nil, rfl⟩
  | _, _, _, .cons (y := y) hx hy t, e => by
    unfold keysD at e
    split at e
    · rename_i k ks e1 e2
      cases e
      obtain ⟨kvs, rfl, r, l⟩ := RepP.keys t e2
      exact ⟨(k, y) :: kvs, by rw [hx.key e1]; rfl, .cons hy r, by simp [l]⟩
    · cases e
theorem RK.append {K : PySem.W.Frag} {H : Hp} {F : FA} {k : Key} {v : V} {d : D} (r : Rep K H F v d) : ∀ {vs : List (Key × V)} {ds : List (Key × D)}, RK K H F vs ds → RK K H F (vs ++ [(k, v)]) (ds ++ [(k, d)])
  | _, _, .nil => .cons r .nil
  | _, _, .cons h t => .cons h (RK.append r t)
theorem RK.repl {K : PySem.W.Frag} {H : Hp} {F : FA} {k : Key} {v : V} {d : D} (r : Rep K H F v d) : ∀ {vs : List (Key × V)} {ds : List (Key × D)}, RK K H F vs ds →
    RK K H F (vs.map fun kv => if kv.1 = k then (kv.1, v) else kv) (ds.map fun kv => if kv.1 = k then (kv.1, d) else kv)
  | _, _, .nil => .nil
  | _, _, .cons (k := j) h t => by
    rw [List.map_cons, List.map_cons]
    by_cases e : j = k
    · simp only [e, if_true]; exact .cons r (RK.repl r t)
    · simp only [e, if_false]; exact .cons h (RK.repl r t)
theorem RK.any {K : PySem.W.Frag} {H : Hp} {F : FA} {k : Key} : ∀ {vs : List (Key × V)} {ds : List (Key × D)}, RK K H F vs ds → (vs.any fun kv => decide (kv.1 = k)) = ds.any fun kv => decide (kv.1 = k)
  | _, _, .nil => rfl
  | _, _, .cons h t => by rw [List.any_cons, List.any_cons, RK.any t]
theorem RK.put {K : PySem.W.Frag} {H : Hp} {F : FA} {k : Key} {v : V} {d : D} {vs : List (Key × V)} {ds : List (Key × D)} (h : RK K H F vs ds) (r : Rep K H F v d) : RK K H F (putK vs k v) (putD ds k d) := by
  unfold putK putD
  rw [h.any]
  split
  · exact h.repl r
  · exact h.append r
theorem RK.merge {K : PySem.W.Frag} {H : Hp} {F : FA} : ∀ {ms : List (Key × V)} {es : List (Key × D)} {vs : List (Key × V)} {ds : List (Key × D)}, RK K H F ms es → RK K H F vs ds → RK K H F (mergeK vs ms) (mergeD ds es)
  | _, _, _, _, .nil, h => h
  | _, _, _, _, .cons r t, h => show RK K H F (mergeK (putK _ _ _) _) (mergeD (putD _ _ _) _) from RK.merge t (h.put r)
theorem RK.ok {K : PySem.W.Frag} {H : Hp} {F : FA} : ∀ {vs : List (Key × V)} {ds : List (Key × D)}, RK K H F vs ds → ROk K H F vs (shK ds) []
  | _, _, .nil => .nil
  | _, _, .cons r t => .cons (f1 := []) (f2 := []) (.sh r) (RK.ok t) fun _ q => nomatch q
section
variable {X : Cx} {W : WX} {e : Expr}
def trs (X : Cx) (W : WX) : List ((En → Rs D) × (En → Rs D)) → List (TE × TE)
  | [] => []
  | p :: r => (tD (gx X) W p.1, tD (gx X) W p.2) :: trs X W r
theorem tPairs_of {σ : Sg} : ∀ {ps : List ((En → Rs D) × (En → Rs D))} {env : En} {H : Hp} {F : FA} {fp : List Addr} {P : List (D × D) → En → Hp → FA → List Addr → Prop} {Q : List (V × V) → Hp → Prop}, Sta X.K H F σ env fp →
    Out (gx X) W σ fp H F (ePairs ps env) P → (∀ vs ds env' H' F' fp', Tr fp H F H' F' fp' → Sta X.K H' F' σ env' fp' → RepP X.K H' F' vs ds → P ds env' H' F' fp' → Q vs H') → tPairs (trs X W ps) σ H Q
  | [], env, H, F, fp, P, Q, st, h, k => k [] [] env H F fp .refl st .nil (h H F fp .refl st)
  | (fk, fv) :: r, env, H, F, fp, P, Q, st, h, k => by
    refine ⟨env, F, fp, st, Out.mono h.bind fun a env1 H1 F1 fp1 t1 s1 h1 x rx => ?_⟩
    refine ⟨env1, F1, fp1, s1, Out.mono h1.bind fun b env2 H2 F2 fp2 t2 s2 h2 y ry => ?_⟩
    refine tPairs_of (ps := r) s2 h2.bind fun vs ds env3 H3 F3 fp3 t3 s3 rs h3 => ?_
    exact k _ _ env3 H3 F3 fp3 ((t1.trans t2).trans t3) s3 (.cons ((rx.tr s1.re t2).tr s2.re t3) (ry.tr s2.re t3) rs) (h3 H3 F3 fp3 .refl s3)
theorem po_dic {pos : Pos} {keys : List (Option Expr)} {values : List Expr} {ps : List ((En → Rs D) × (En → Rs D))} (h : PPs X pos keys values (trs X W ps)) (hall : keys.all (·.isSome) = true := by rfl) (hl : keys.length = values.length := by rfl) (h0 : keys ≠ [] := by intro z; cases z)
    (h15 : keys.length ≤ 15 := by decide) : PE X (.Dict keys values pos) (tO (gx X) W (oDic ps)) := PE.imp (pe_disp h hall hl h0 h15) fun σ H Q ⟨env, F, fp, st, h⟩ => by
  intro p np
  obtain ⟨z1, z2, z3, z4, z5⟩ := own_new (ob := .dK []) st np
  -- the work beside the new dict
  unfold oDic bnd at h
  cases e : ePairs ps env with
  | exc x env' =>
    rw [e] at h
    refine tPairs_of (P := fun _ _ _ _ _ => False) z2 (by rw [e]; exact fun H' F' fp' c o t s rx => h H' F' fp' c o ((z1.less fun a q => List.mem_append_right _ q).trans t) s rx) fun _ _ _ _ _ _ _ _ _ z => z.elim
  | bad => rw [e] at h; exact h.elim
  | ok l env' =>
    rw [e] at h
    dsimp only at h
    cases ek : keysD l with
    | none => rw [ek] at h; exact h.elim
    | some ks =>
      rw [ek] at h
      dsimp only at h
      split at h
      · rename_i h15
        refine tPairs_of (P := fun d e' _ _ _ => d = l ∧ e' = env') z2 (by rw [e]; exact fun H' F' fp' t s => ⟨rfl, rfl⟩) fun vs ds env2 H2 F2 fp2 t2 s2 rp ⟨e1, e2⟩ => ?_
        subst e1 e2
        obtain ⟨kvs, rfl, rk, lk⟩ := rp.keys ek
        have hp0 : (upd H p (.dK [])) p = some (.dK []) := upd_same
        have npf : p ∉ fp := z4 p (List.mem_singleton.mpr rfl)
        obtain ⟨hp2, hF2⟩ := t2.keep p _ hp0 npf
        have nF2 : ¬ F2 p := fun q => z3 (hF2 q)
        have npf2 : p ∉ fp2 := fun q => by
          rcases t2.new p q with z | z
          · exact npf z
          · rw [hp0] at z; cases z
        refine ⟨hp2, kvs, rfl, by rw [lk]; exact h15, ?_⟩
        have hk : ∀ a u, a ≠ p → H2 a = some u → (upd H2 p (.dK (mergeK [] kvs))) a = some u := fun a u n z => by rw [upd_ne n]; exact z
        have sb : Stb H2 F2 (upd H2 p (.dK (mergeK [] kvs))) F2 := ⟨fun a u f z _ _ => hk a u (fun q => nF2 (q ▸ f)) z, fun a u f z => z.imp (hk a _ (fun q => nF2 (q ▸ f))) fun ⟨o, z⟩ => ⟨o, hk a _ (fun q => nF2 (q ▸ f)) z⟩, fun _ h => h⟩
        refine h (upd H2 p (.dK (mergeK [] kvs))) F2 fp2 (.ref p) [p] ⟨fun a u z n => ?_, fun a q => t2.froz a q, fun a q => ?_⟩ ⟨s2.re.mono sb fun a q => ⟨upd_ne fun z => npf2 (z ▸ q), id⟩, fun a q => ?_⟩ (.dic (fp := []) upd_same nF2 ((rk.merge .nil).ok.mono sb fun _ q => nomatch q) (by simp)) (fun a q => by rw [List.mem_singleton.mp q]; exact npf2)
        · have na : a ≠ p := fun q => by rw [q, np] at z; cases z
          obtain ⟨e1, f1⟩ := t2.keep a u (by rw [upd_ne na]; exact z) n
          exact ⟨hk a u na e1, f1⟩
        · rcases List.mem_append.mp q with q | q
          · rw [List.mem_singleton.mp q]; exact .inr np
          · rcases t2.new a q with z | z
            · exact .inl z
            · refine .inr ?_
              by_cases ea : a = p
              · rw [ea]; exact np
              · rw [upd_ne ea] at z; exact z
        · obtain ⟨u, z⟩ := s2.fo a q
          exact ⟨u, hk a u (fun w => nF2 (w ▸ q)) z⟩
      · exact h.elim
/-- {} -/
def oDic0 : En → Rs O := fun env₀ => (ret (.dic [])) env₀
theorem po_dic0 {pos : Pos} : PE X (.Dict [] [] pos) (tO (gx X) W oDic0) := PE.imp pe_dnewK fun σ H Q ⟨env, F, fp, st, h⟩ p np => by
  obtain ⟨z1, z2, z3, z4, z5⟩ := own_new (ob := .dK []) st np
  exact h _ F fp (.ref p) [p] z1 z2 (.dic (fp := []) upd_same z3 .nil (by simp)) z4
/-! ### subscripts of a slot's own thing -/
def lookO : List (Key × O) → Key → Option O
  | [], _ => none
  | (a, b) :: r, k => if a = k then some b else lookO r k
def putO (kvs : List (Key × O)) (k : Key) (v : O) : List (Key × O) :=
  if (kvs.any fun kv => decide (kv.1 = k)) = true then kvs.map (fun kv => if kv.1 = k then (kv.1, v) else kv) else kvs ++ [(k, v)]
theorem ROk.look {K : PySem.W.Frag} {H : Hp} {F : FA} {k : Key} {o : O} : ∀ {vs : List (Key × V)} {os : List (Key × O)} {fp : List Addr}, ROk K H F vs os fp → lookO os k = some o → ∃ v f1, valV vs k = some v ∧ RO K H F v o f1
  | _, _, _, .nil, e => nomatch (show (none : Option O) = some o from e)
  | _, _, _, .cons (k := j) (v := v) h t _, e => by
    unfold lookO at e
    by_cases q : j = k
    · rw [if_pos q] at e
      cases e
      exact ⟨v, _, valV_pos (p := (j, v)) q, h⟩
    · rw [if_neg q] at e
      rw [valV_neg (p := (j, v)) q]
      exact ROk.look t e
theorem ROk.none {K : PySem.W.Frag} {H : Hp} {F : FA} {k : Key} : ∀ {vs : List (Key × V)} {os : List (Key × O)} {fp : List Addr}, ROk K H F vs os fp → lookO os k = none → valV vs k = none
  | _, _, _, .nil, _ => rfl
  | _, _, _, .cons (k := j) (v := v) h t _, e => by
    unfold lookO at e
    by_cases q : j = k
    · rw [if_pos q] at e; cases e
    · rw [if_neg q] at e
      rw [valV_neg (p := (j, v)) q]
      exact ROk.none t e
theorem ROk.any {K : PySem.W.Frag} {H : Hp} {F : FA} {k : Key} : ∀ {vs : List (Key × V)} {ds : List (Key × O)} {fp : List Addr}, ROk K H F vs ds fp → (vs.any fun kv => decide (kv.1 = k)) = ds.any fun kv => decide (kv.1 = k)
  | _, _, _, .nil => rfl
  | _, _, _, .cons h t _ => by rw [List.any_cons, List.any_cons, ROk.any t]
theorem ROk.length {K : PySem.W.Frag} {H : Hp} {F : FA} : ∀ {vs : List (Key × V)} {ds : List (Key × O)} {fp : List Addr}, ROk K H F vs ds fp → vs.length = ds.length
  | _, _, _, .nil => rfl
  | _, _, _, .cons h t _ => by rw [List.length_cons, List.length_cons, ROk.length t]
theorem ROk.snoc {K : PySem.W.Frag} {H : Hp} {F : FA} {k : Key} {v : V} {o : O} {fr : List Addr} (r : RO K H F v o fr) : ∀ {vs : List (Key × V)} {ds : List (Key × O)} {fp : List Addr}, ROk K H F vs ds fp → Dj fr fp → ∃ fp', ROk K H F (vs ++ [(k, v)]) (ds ++ [(k, o)]) fp' ∧ ∀ a, a ∈ fp' ↔ a ∈ fr ∨ a ∈ fp
  | _, _, _, .nil, _ => ⟨fr ++ [], .cons r .nil (fun _ _ q => nomatch q), fun a => by simp⟩
  | _, _, _, .cons (f1 := f1) (f2 := f2) h t d, dj => by
    obtain ⟨fp', q, hm⟩ := ROk.snoc (k := k) r t fun a z z' => dj a z (List.mem_append_right _ z')
    refine ⟨f1 ++ fp', .cons h q fun a z z' => ?_, fun a => ?_⟩
    · rcases (hm a).mp z' with z' | z'
      · exact dj a z' (List.mem_append_left _ z)
      · exact d a z z'
    · rw [List.mem_append, List.mem_append, hm]
      constructor
      · rintro (q | q | q)
        · exact .inr (.inl q)
        · exact .inl q
        · exact .inr (.inr q)
      · rintro (q | q | q)
        · exact .inr (.inl q)
        · exact .inl q
        · exact .inr (.inr q)
theorem ROk.repl {K : PySem.W.Frag} {H : Hp} {F : FA} {k : Key} {v : V} {d : D} (r : Rep K H F v d) : ∀ {vs : List (Key × V)} {ds : List (Key × O)} {fp : List Addr}, ROk K H F vs ds fp →
    ∃ fp', ROk K H F (vs.map fun kv => if kv.1 = k then (kv.1, v) else kv) (ds.map fun kv => if kv.1 = k then (kv.1, .sh d) else kv) fp' ∧ ∀ a ∈ fp', a ∈ fp
  | _, _, _, .nil => ⟨[], .nil, fun _ q => q⟩
  | _, _, _, .cons (k := j) (f1 := f1) (f2 := f2) h t dj => by
    obtain ⟨fp', q, hm⟩ := ROk.repl (k := k) r t
    rw [List.map_cons, List.map_cons]
    by_cases e : j = k
    · simp only [e, if_true]
      exact ⟨[] ++ fp', .cons (f1 := []) (.sh r) q (fun _ q => nomatch q), fun a z => List.mem_append_right _ (hm a (by simpa using z))⟩
    · simp only [e, if_false]
      exact ⟨f1 ++ fp', .cons h q fun a z z' => dj a z (hm a z'), fun a z => (List.mem_append.mp z).elim (fun z => List.mem_append_left _ z) fun z => List.mem_append_right _ (hm a z)⟩
/-- x[k] -/
def eSub (i : Nat) (fk : En → Rs D) : En → Rs D := fun env => match env[i]? with
  | some (some (.sh d)) => bnd fk (fun k => lift (idxD d k)) env
  | some (some (.dic _)) => bnd fk (fun k env => match env[i]? with
    | some (some (.dic kvs)) => match (keyOf k).bind (lookO kvs) with
      | some (.sh d) => .ok d env
      | _ => .bad
    | _ => .bad) env
  | some (some (.lst _)) => bnd fk (fun k env => match env[i]?, k with
    | some (some (.lst ds)), .int j => match atI ds j with
      | some d => .ok d env
      | none => .bad
    | _, _ => .bad) env
  | _ => .bad
theorem pd_sub (hu : X.A.units + 1 < cLine) (i : Nat) {x : Str} {p pos : Pos} {b : Expr} {fk : En → Rs D} (hb : PE X b (tD (gx X) W fk)) (hs : PlainIx b) (hN : X.N[i]? = some x := by rfl) (hv : Vis X.env.scope x := by first | exact Or.inl rfl | exact Or.inr (Or.inl rfl) | exact Or.inr (Or.inr rfl)) (hd : (x == ("__debug__" : Str)) = false := by decide)
    (hcd : (x == ("__classdict__" : Str)) = false := by decide) : PE X (.Subscript (.Name x p) b pos) (tD (gx X) W (eSub i fk)) :=
  PE.imp (pe_ix ((ix_any hu).or (ix_list.or (ix_dict hu))) (pe_var hN hv hd hcd) hb hs) fun σ H Q ⟨env, F, fp, st, h⟩ => by
    unfold eSub at h
    split at h
    · rename_i d he
      obtain ⟨v, f1, fr, e1, r, hm, hd, hk⟩ := pv_of st.re he
      refine ⟨v, e1, env, F, fp, st, Out.mono h.bind fun k env1 H1 F1 fp1 t1 s1 h1 u ru => ?_⟩
      obtain ⟨z, ez, h2⟩ := h1.lift
      cases r with
      | sh r => exact .inl ⟨F1, d, k, z, r.tr st.re t1, ru, ez, fun v H' F' n r => h2 H' F' fp1 n.tr (n.sta s1) v r⟩
    · rename_i kvs0 he
      obtain ⟨v, f1, fr, e1, r, hm, hd, hk⟩ := pv_of st.re he
      refine ⟨v, e1, env, F, fp, st, Out.mono h.bind fun k env1 H1 F1 fp1 t1 s1 h1 u ru => ?_⟩
      split at h1
      · rename_i kvs he1
        obtain ⟨v', f1', fr', e1', r', hm', hd', hk'⟩ := pv_of s1.re he1
        rw [e1] at e1'
        cases e1'
        split at h1
        · rename_i d ed
          obtain ⟨key, ek, el⟩ := Option.bind_eq_some_iff.mp ed
          cases r' with
          | dic ha hf q hn =>
            obtain ⟨w', g1, ew, rw'⟩ := q.look el
            cases rw' with
            | sh rw' => exact .inr (.inr ⟨_, w', rfl, .inl ⟨_, key, .inl ha, ru.key ek, ew.symm⟩, h1 H1 F1 fp1 .refl s1 _ rw'⟩)
        · exact h1.elim
      · exact h1.elim
    · rename_i ds0 he
      obtain ⟨v, f1, fr, e1, r, hm, hd, hk⟩ := pv_of st.re he
      refine ⟨v, e1, env, F, fp, st, Out.mono h.bind fun k env1 H1 F1 fp1 t1 s1 h1 u ru => ?_⟩
      split at h1
      · rename_i ds j he1
        obtain ⟨v', f1', fr', e1', r', hm', hd', hk'⟩ := pv_of s1.re he1
        rw [e1] at e1'
        cases e1'
        split at h1
        · rename_i d ed
          cases r' with
          | lst ha hf q =>
            obtain ⟨w', ew, rw'⟩ := q.at ed
            cases ru
            exact .inr (.inl ⟨_, _, _, w', rfl, rfl, .inl (.inl ha), ew, h1 H1 F1 fp1 .refl s1 _ rw'⟩)
        · exact h1.elim
      · exact h1.elim
    · exact h.elim
end
end VH
set_option Elab.async false
set_option linter.all false
set_option maxRecDepth 100000
set_option maxHeartbeats 4000000
namespace VH
open PySem PySem.Spec PyProof.Rows L2

/-! ### statements -/
inductive Fl where
  | nx | brk | cnt | ret (o : O)
/-- the borrowed parameters stand in their slots -/
def Pin (bs : List Bool) (vs : List V) (σ : Sg) : Prop := ∀ (i : Nat) (v : V), bs[i]? = some true → vs[i]? = some v → σ[i]? = some (some v)
structure Bx where
  bs : List Bool
  vs : List V
def OutS (G : Gx) (W : WX) (B : Bx) (fp : List Addr) (H : Hp) (F : FA) (r : Rs Fl) (N : Ends) : Prop := match r with
  | .ok .nx env => ∀ σ' H' F' fp', Pin B.bs B.vs σ' → Tr fp H F H' F' fp' → Sta G.K H' F' σ' env fp' → N.nx σ' H'
  | .ok .brk env => ∀ σ' H' F' fp', Pin B.bs B.vs σ' → Tr fp H F H' F' fp' → Sta G.K H' F' σ' env fp' → N.bk σ' H'
  | .ok .cnt env => ∀ σ' H' F' fp', Pin B.bs B.vs σ' → Tr fp H F H' F' fp' → Sta G.K H' F' σ' env fp' → N.ct σ' H'
  | .ok (.ret o) env => ∀ σ' H' F' fp' v fr, Pin B.bs B.vs σ' → Tr fp H F H' F' (fr ++ fp') → Sta G.K H' F' σ' env fp' → RO G.K H' F' v o fr → Dj fr fp' → N.rt v H'
  | .exc x env => ∀ σ' H' F' fp' c o, Pin B.bs B.vs σ' → Tr fp H F H' F' fp' → Sta G.K H' F' σ' env fp' → RX G H' F' c o x → W c o σ' H'
  | .bad => False
def tS (G : Gx) (W : WX) (B : Bx) (f : En → Rs Fl) : TS := fun N σ H => Pin B.bs B.vs σ ∧ ∃ env F fp, Sta G.K H F σ env fp ∧ OutS G W B fp H F (f env) N
theorem PS.imp {X : Cx} {st : Stmt} {t t' : TS} (h : PS X st t) (k : ∀ N σ H, t' N σ H → t N σ H) : PS X st t' := ⟨fun pins s σ H N I w => h.run pins s σ H N I (k N σ H w)⟩
theorem PSs.imp {X : Cx} {st : List Stmt} {t t' : TS} (h : PSs X st t) (k : ∀ N σ H, t' N σ H → t N σ H) : PSs X st t' := ⟨fun pins s σ H N I w => h.run pins s σ H N I (k N σ H w)⟩
/-- what follows where nothing else happened -/
def sSeq (f g : En → Rs Fl) : En → Rs Fl := fun env => match f env with
  | .ok .nx e => g e
  | r => r
def sNext : En → Rs Fl := fun env₀ => (ret .nx) env₀
section
variable {G : Gx} {W : WX} {B : Bx} {σ : Sg} {fp : List Addr} {H : Hp} {F : FA}
theorem OutS.later {r : Rs Fl} {N : Ends} {fp1 : List Addr} {H1 : Hp} {F1 : FA} (t : Tr fp H F H1 F1 fp1) (h : OutS G W B fp H F r N) : OutS G W B fp1 H1 F1 r N := by
  cases r with
  | ok fl env =>
    cases fl with
    | nx => exact fun σ' H' F' fp' p t2 s => h σ' H' F' fp' p (t.trans t2) s
    | brk => exact fun σ' H' F' fp' p t2 s => h σ' H' F' fp' p (t.trans t2) s
    | cnt => exact fun σ' H' F' fp' p t2 s => h σ' H' F' fp' p (t.trans t2) s
    | ret o => exact fun σ' H' F' fp' v fr p t2 s => h σ' H' F' fp' v fr p (t.trans t2) s
  | exc x env => exact fun σ' H' F' fp' c o p t2 s rx => h σ' H' F' fp' c o p (t.trans t2) s rx
  | bad => exact h
/-- behind an expression -/
theorem OutS.bind {α : Type} {f : En → Rs α} {g : α → En → Rs Fl} {env : En} {N : Ends} (p : Pin B.bs B.vs σ) (h : OutS G W B fp H F (bnd f g env) N) :
    Out G W σ fp H F (f env) fun a env1 H1 F1 fp1 => OutS G W B fp1 H1 F1 (g a env1) N := by
  unfold bnd at h
  cases e : f env with
  | ok a env1 =>
    rw [e] at h
    exact fun H1 F1 fp1 t1 s1 => OutS.later t1 h
  | exc x env1 =>
    rw [e] at h
    exact fun H' F' fp' c o t s rx => h σ H' F' fp' c o p t s rx
  | bad => rw [e] at h; exact h
theorem OutS.bindO {f : En → Rs O} {g : O → En → Rs Fl} {env : En} {N : Ends} (p : Pin B.bs B.vs σ) (h : OutS G W B fp H F (bnd f g env) N) :
    OutO G W σ fp H F (f env) fun a env1 H1 F1 fp1 v fr => OutS G W B (fr ++ fp1) H1 F1 (g a env1) N := by
  unfold bnd at h
  cases e : f env with
  | ok a env1 =>
    rw [e] at h
    exact fun H1 F1 fp1 v fr t1 s1 r d => OutS.later t1 h
  | exc x env1 =>
    rw [e] at h
    exact fun H' F' fp' c o t s rx => h σ H' F' fp' c o p t s rx
  | bad => rw [e] at h; exact h
theorem OutS.nx {env : En} {N : Ends} {fp1 : List Addr} {H1 : Hp} {F1 : FA} (h : OutS G W B fp H F (.ok .nx env) N) (p : Pin B.bs B.vs σ) (t : Tr fp H F H1 F1 fp1) (s : Sta G.K H1 F1 σ env fp1) : N.nx σ H1 := h σ H1 F1 fp1 p t s
end
section
variable {X : Cx} {W : WX} {B : Bx} {st : Stmt} {rest : List Stmt} {f g : En → Rs Fl} {e : Expr} {pos : Pos}
theorem psd_nil : PSs X [] (tS (gx X) W B sNext) := PSs.imp pss_nil fun N σ H ⟨p, env, F, fp, s, h⟩ => OutS.nx h p .refl s
theorem psd_cons (h1 : PS X st (tS (gx X) W B f)) (h2 : PSs X rest (tS (gx X) W B g)) : PSs X (st :: rest) (tS (gx X) W B (sSeq f g)) := PSs.imp (pss_cons h1 h2) fun N σ H ⟨p, env, F, fp, s, h⟩ => by
  refine ⟨p, env, F, fp, s, ?_⟩
  unfold sSeq at h
  cases e : f env with
  | ok fl env1 =>
    rw [e] at h
    cases fl with
    | nx => exact fun σ' H' F' fp' p' t s' => ⟨p', env1, F', fp', s', OutS.later t h⟩
    | brk => exact h
    | cnt => exact h
    | ret o => exact h
  | exc x env1 => rw [e] at h; exact h
  | bad => rw [e] at h; exact h
theorem psd_one (h1 : PS X st (tS (gx X) W B f)) : PSs X [st] (tS (gx X) W B f) := pss_one h1
theorem psd_pass : PS X (.Pass pos) (tS (gx X) W B sNext) := PS.imp ps_pass fun N σ H ⟨p, env, F, fp, s, h⟩ => OutS.nx h p .refl s
theorem psd_break : PS X (.Break pos) (tS (gx X) W B (ret .brk)) := PS.imp ps_break fun N σ H ⟨p, env, F, fp, s, h⟩ => h σ H F fp p .refl s
theorem psd_cont : PS X (.Continue pos) (tS (gx X) W B (ret .cnt)) := PS.imp ps_continue fun N σ H ⟨p, env, F, fp, s, h⟩ => h σ H F fp p .refl s
def sNever : En → Rs Fl := fun _ => .bad
theorem psd_never : PS X st (tS (gx X) W B sNever) := PS.imp ps_never fun N σ H ⟨p, env, F, fp, s, h⟩ => h
theorem pssd_never : PSs X rest (tS (gx X) W B sNever) := PSs.imp pss_never fun N σ H ⟨p, env, F, fp, s, h⟩ => h
/-! ### small ones -/
def sRet (f : En → Rs O) : En → Rs Fl := fun env₀ => (bnd f fun o => ret (.ret o)) env₀
theorem psd_ret {f : En → Rs O} (h : PE X e (tO (gx X) W f)) : PS X (.Return (some e) pos) (tS (gx X) W B (sRet f)) := PS.imp (ps_ret h) fun N σ H ⟨p, env, F, fp, s, h⟩ =>
  ⟨env, F, fp, s, OutO.mono (OutS.bindO p h) fun o env1 H1 F1 fp1 v fr t1 s1 r d h1 => h1 σ H1 F1 fp1 v fr p .refl s1 r d⟩
theorem psd_retN : PS X (.Return none pos) (tS (gx X) W B (ret (.ret (.sh .none)))) := PS.imp ps_retN fun N σ H ⟨p, env, F, fp, s, h⟩ => h σ H F fp .non [] p Tr.refl s (.sh .non) fun _ q => nomatch q
def sDo {α : Type} (f : En → Rs α) : En → Rs Fl := fun env₀ => (bnd f fun _ => ret .nx) env₀
theorem psd_expr {f : En → Rs D} (h : PE X e (tD (gx X) W f)) (hs : swapsWith e none pos.line X.env = pure false := by rfl) : PS X (.Expr e pos) (tS (gx X) W B (sDo f)) := PS.imp (ps_expr h hs) fun N σ H ⟨p, env, F, fp, s, h⟩ =>
  ⟨env, F, fp, s, Out.mono (OutS.bind p h) fun o env1 H1 F1 fp1 t1 s1 h1 v r => h1 σ H1 F1 fp1 p .refl s1⟩
def sIf (c : En → Rs Bool) (f g : En → Rs Fl) : En → Rs Fl := fun env₀ => (bnd c fun b env => if b = true then f env else g env) env₀
theorem psd_if {c : Expr} {a b : List Stmt} {fc : En → Rs Bool} (hc : PT X c (tT (gx X) W fc)) (ha : PSs X a (tS (gx X) W B f)) (hb : PSs X b (tS (gx X) W B g)) : PS X (.If c a b pos) (tS (gx X) W B (sIf fc f g)) := PS.imp (ps_if hc ha hb) fun N σ H ⟨p, env, F, fp, s, h⟩ => by
  refine ⟨env, F, fp, s, Out.mono (OutS.bind p h) fun b env1 H1 F1 fp1 t1 s1 h1 => ?_⟩
  cases b with
  | true => exact iteT ⟨p, env1, F1, fp1, s1, h1⟩
  | false => exact iteF ⟨p, env1, F1, fp1, s1, h1⟩
theorem Pin.set {bs : List Bool} {vs : List V} {σ : Sg} {i : Nat} {w : Option V} (p : Pin bs vs σ) (h : bs[i]? ≠ some true) : Pin bs vs (σ.set i w) := fun j v e1 e2 => by
  have : i ≠ j := fun q => h (q ▸ e1)
  rw [List.getElem?_set_ne this]
  exact p j v e1 e2
/-- x = e, an owned thing -/
def sSet (i : Nat) (f : En → Rs O) : En → Rs Fl := fun env₀ => (bnd f fun o env => if i < env.length then .ok .nx (env.set i (some o)) else .bad) env₀
theorem psd_set {i : Nat} {x : Str} {f : En → Rs O} {pos' : Pos} (hN : X.N.Nodup) (hx : Loc X.env.scope x) (he : PE X e (tO (gx X) W f)) (hb : B.bs[i]? ≠ some true) (hi : X.N[i]? = some x := by rfl) (hs : swapsWith e (some (.Name x pos')) pos.line X.env = pure false := by rfl) (hf : X.fn x = true ∨ X.env.scope.names.lookup x = some .local := by first | exact .inl rfl | exact .inr rfl | assumption) :
    PS X (.Assign [.Name x pos'] e pos) (tS (gx X) W B (sSet i f)) := PS.imp (ps_set hN hi hx he hs hf) fun N σ H ⟨p, env, F, fp, s, h⟩ => by
  refine ⟨env, F, fp, s, OutO.mono (OutS.bindO p h) fun o env1 H1 F1 fp1 v fr t1 s1 r d h1 => ?_⟩
  split at h1
  · rename_i hi
    obtain ⟨fp', re, hm⟩ := put_slot s1.re hi r d
    exact h1 (σ.set i (some v)) H1 F1 fp' (p.set hb) (Tr.refl.less hm) ⟨re, s1.fo⟩
  · exact h1.elim
/-! ### targets -/
abbrev Tg := D → En → Option En
def tgN (i : Nat) : Tg := fun d env => if i < env.length then some (env.set i (some (.sh d))) else none
def tgSeq : List Tg → List D → En → Option En
  | [], [], env => some env
  | t :: ts, d :: ds, env => (t d env).bind (tgSeq ts ds)
  | _, _, _ => none
def tgT (n : Nat) (ts : List Tg) : Tg := fun d env => match d with
  | .tuple ds => if ds.length = n then tgSeq ts ds env else none
  | _ => none
/-- ix: the slots that may be stored -/
def tG (G : Gx) (B : Bx) (ix : List Nat) (tg : Tg) : TG := fun v σ H Q => Pin B.bs B.vs σ ∧ ∃ env F fp d env', Sta G.K H F σ env fp ∧ Rep G.K H F v d ∧ tg d env = some env' ∧
  ∀ σ' H' F' fp', Pin B.bs B.vs σ' → wipe σ' ix = wipe σ ix → Tr fp H F H' F' fp' → Sta G.K H' F' σ' env' fp' → Q σ' H'
def tGs (G : Gx) (B : Bx) (ix : List Nat) (ts : List Tg) : TGs := fun xs σ H Q => Pin B.bs B.vs σ ∧ ∃ env F fp ds env', Sta G.K H F σ env fp ∧ RepA G.K H F xs ds ∧ tgSeq ts ds env = some env' ∧
  ∀ σ' H' F' fp', Pin B.bs B.vs σ' → wipe σ' ix = wipe σ ix → Tr fp H F H' F' fp' → Sta G.K H' F' σ' env' fp' → Q σ' H'
theorem PG.imp {tgt : Expr} {t t' : TG} (h : PG X tgt t) (k : ∀ v σ H Q, t' v σ H Q → t v σ H Q) : PG X tgt t' := ⟨fun pins s σ H v u Q I r w => h.run pins s σ H v u Q I r (k v σ H Q w)⟩
theorem PGs.imp {tgt : List Expr} {t t' : TGs} (h : PGs X tgt t) (k : ∀ v σ H Q, t' v σ H Q → t v σ H Q) : PGs X tgt t' := ⟨fun pins s σ H v u Q I r w => h.run pins s σ H v u Q I r (k v σ H Q w)⟩
theorem wipe_get {σ : Sg} : ∀ {ix : List Nat} (j : Nat), (wipe σ ix)[j]? = if j ∈ ix ∧ j < σ.length then some none else σ[j]?
  | [], j => by rw [if_neg (by simp)]; rfl
  | i :: ix, j => by
    unfold wipe
    by_cases e : i = j
    · subst e
      by_cases hl : i < σ.length
      · rw [List.getElem?_set_self (by rw [wipe_length]; exact hl), if_pos ⟨List.mem_cons_self, hl⟩]
      · rw [if_neg fun q => hl q.2, List.getElem?_eq_none (by rw [List.length_set, wipe_length]; omega), List.getElem?_eq_none (by omega)]
    · rw [List.getElem?_set_ne e, wipe_get j]
      have : (j ∈ i :: ix ∧ j < σ.length) ↔ (j ∈ ix ∧ j < σ.length) := by
        rw [List.mem_cons]
        exact ⟨fun ⟨a, b⟩ => ⟨a.resolve_left fun q => e q.symm, b⟩, fun ⟨a, b⟩ => ⟨.inr a, b⟩⟩
      simp only [this]
theorem wipe_set {σ : Sg} {ix : List Nat} {i : Nat} {v : Option V} (h : i ∈ ix) : wipe (σ.set i v) ix = wipe σ ix := by
  apply List.ext_getElem?
  intro j
  rw [wipe_get, wipe_get, List.length_set]
  by_cases c : j ∈ ix ∧ j < σ.length
  · rw [if_pos c, if_pos c]
  · rw [if_neg c, if_neg c]
    by_cases e : i = j
    · subst e
      have hl : ¬ i < σ.length := fun q => c ⟨h, q⟩
      rw [List.getElem?_eq_none (by rw [List.length_set]; omega), List.getElem?_eq_none (by omega)]
    · rw [List.getElem?_set_ne e]
theorem pgd_name {ix : List Nat} {i : Nat} {x : Str} (hN : X.N.Nodup) (hx : Loc X.env.scope x) (hb : B.bs[i]? ≠ some true) (hix : i ∈ ix) (hi : X.N[i]? = some x := by rfl) (hf : X.fn x = true ∨ X.env.scope.names.lookup x = some .local := by first | exact .inl rfl | exact .inr rfl | assumption) :
    PG X (.Name x pos) (tG (gx X) B ix (tgN i)) := PG.imp (pg_name hN hi hx hf) fun v σ H Q ⟨p, env, F, fp, d, env', s, r, e, k⟩ => by
  unfold tgN at e
  split at e
  · rename_i hl
    cases e
    obtain ⟨fp', re, hm⟩ := put_slot s.re hl (RO.sh r) fun _ q => nomatch q
    exact k (σ.set i (some v)) H F fp' (p.set hb) (wipe_set hix) (Tr.refl.less fun a q => by simpa using hm a q) ⟨re, s.fo⟩
  · cases e
theorem pgsd_nil {ix : List Nat} : PGs X [] (tGs (gx X) B ix []) := PGs.imp pgs_nil fun v σ H Q ⟨p, env, F, fp, d, env', s, r, e, k⟩ => by
  cases r with
  | nil => cases e; exact ⟨rfl, k σ H F fp p rfl .refl s⟩
  | cons _ _ => cases e
theorem pgsd_cons {ix : List Nat} {a : Expr} {as : List Expr} {t : Tg} {ts : List Tg} (h1 : PG X a (tG (gx X) B ix t)) (h2 : PGs X as (tGs (gx X) B ix ts))
    (hs : (assignEach (a :: as) X.env).map (·.2) = assign a X.env :: (assignEach as X.env).map (·.2) := by rfl) : PGs X (a :: as) (tGs (gx X) B ix (t :: ts)) := PGs.imp (pgs_cons h1 h2 hs) fun v σ H Q ⟨p, env, F, fp, d, env', s, r, e, k⟩ => by
  cases r with
  | nil => cases e
  | cons r rs =>
    obtain ⟨env1, e1, e2⟩ := Option.bind_eq_some_iff.mp (show (t _ env).bind (tgSeq ts _) = some env' from e)
    refine ⟨_, _, rfl, p, env, F, fp, _, env1, s, r, e1, fun σ1 H1 F1 fp1 p1 w1 t1 s1 => ?_⟩
    exact ⟨p1, env1, F1, fp1, _, env', s1, rs.mono (t1.stb s.re.nf), e2, fun σ2 H2 F2 fp2 p2 w2 t2 s2 => k σ2 H2 F2 fp2 p2 (w2.trans w1) (t1.trans t2) s2⟩
theorem pgd_tup {ix : List Nat} {as : List Expr} {k : Nat} {ts : List Tg} {n : Nat} (hc : X.calm = true) (h : PGs X as (tGs (gx X) B ix ts))
    (hn : (assignEach as X.env).length = n := by rfl) (hst : (assignEach as X.env).findIdx? (·.1) = none := by rfl) : PG X (.Tuple as k pos) (tG (gx X) B ix (tgT n ts)) := PG.imp (pg_tup hc h hn hst) fun v σ H Q ⟨p, env, F, fp, d, env', s, r, e, k⟩ => by
  unfold tgT at e
  split at e
  · split at e
    · rename_i hl
      cases r with
      | tup f q => exact ⟨_, _, rfl, f.sq, by rw [q.length]; exact hl, p, env, F, fp, _, env', s, q, e, k⟩
    · cases e
  · cases e
/-- target = e -/
def sAsg (f : En → Rs D) (tg : Tg) : En → Rs Fl := fun env₀ => (bnd f fun d env => match tg d env with
  | some env' => .ok .nx env'
  | none => .bad) env₀
theorem psd_asg {ix : List Nat} {t : Expr} {f : En → Rs D} {tg : Tg} (he : PE X e (tD (gx X) W f)) (hg : PG X t (tG (gx X) B ix tg)) (hs : swapsWithSole [t] e pos.line X.env = pure false := by rfl) (hw : swappedStores [t] e X.env = pure none := by rfl)
    (h1 : (assignEach [t] X.env).map (·.2) = [assign t X.env] := by rfl) : PS X (.Assign [t] e pos) (tS (gx X) W B (sAsg f tg)) := PS.imp (ps_asg he hg hs hw h1) fun N σ H ⟨p, env, F, fp, s, h⟩ => by
  refine ⟨env, F, fp, s, Out.mono (OutS.bind p h) fun d env1 H1 F1 fp1 t1 s1 h1 v r => ?_⟩
  split at h1
  · rename_i env' e'
    exact ⟨p, env1, F1, fp1, d, env', s1, r, e', fun σ' H' F' fp' p' _ t' s' => h1 σ' H' F' fp' p' t' s'⟩
  · exact h1.elim
/-! ### stores -/
theorem own_write {K : PySem.W.Frag} {H : Hp} {F : FA} {σ : Sg} {env : En} {fp : List Addr} {a : Addr} {ob : HO} (s : Sta K H F σ env fp) (na : a ∉ fp) (nF : ¬ F a) (ha : ∃ u, H a = some u) :
    Tr ([a] ++ fp) H F (upd H a ob) F ([a] ++ fp) ∧ Sta K (upd H a ob) F σ env fp ∧ Stb H F (upd H a ob) F := by
  have ne : ∀ b, F b → b ≠ a := fun b f q => by subst q; exact nF f
  have sb : Stb H F (upd H a ob) F := ⟨fun b u f z _ _ => by rw [upd_ne (ne b f)]; exact z, fun b u f z => by
    rcases z with z | ⟨o, z⟩
    · exact .inl (by rw [upd_ne (ne b f)]; exact z)
    · exact .inr ⟨o, by rw [upd_ne (ne b f)]; exact z⟩, fun _ h => h⟩
  refine ⟨⟨fun b u e n => ⟨?_, id⟩, fun _ h => h, fun _ h => .inl h⟩, ⟨s.re.mono sb fun b q => ⟨upd_ne fun z => ?_, id⟩, fun b q => ?_⟩, sb⟩
  · rw [upd_ne fun q => n (List.mem_append_left _ (List.mem_singleton.mpr q))]; exact e
  · subst z; exact na q
  · obtain ⟨u, z⟩ := s.fo b q
    exact ⟨u, by rw [upd_ne (ne b q)]; exact z⟩
/-- x[k] = e, x a dict of one's own -/
def sPut (i : Nat) (fk : En → Rs D) (fe : En → Rs D) : En → Rs Fl := fun env₀ => (bnd fe fun d env => match env[i]? with
  | some (some (.dic _)) => bnd fk (fun k env => match env[i]? with
    | some (some (.dic kvs)) => match keyOf k with
      | some key => if kvs.length < sizeLine then .ok .nx (env.set i (some (.dic (putO kvs key (.sh d))))) else .bad
      | none => .bad
    | _ => .bad) env
  | _ => .bad) env₀
theorem ROk.putSh {K : PySem.W.Frag} {H : Hp} {F : FA} {k : Key} {v : V} {d : D} {vs : List (Key × V)} {ds : List (Key × O)} {fp : List Addr} (h : ROk K H F vs ds fp) (r : Rep K H F v d) : ∃ fp', ROk K H F (putK vs k v) (putO ds k (.sh d)) fp' ∧ ∀ a ∈ fp', a ∈ fp := by
  unfold putK putO
  rw [h.any]
  split
  · exact h.repl r
  · obtain ⟨fp', q, hm⟩ := h.snoc (k := k) (RO.sh r) fun _ q => nomatch q
    exact ⟨fp', q, fun a z => by simpa using (hm a).mp z⟩
theorem psd_put (hu : X.A.units + 1 < cLine) (i : Nat) {x : Str} {p2 pos' : Pos} {b : Expr} {fk fe : En → Rs D} (hb : PE X b (tD (gx X) W fk)) (he : PE X e (tD (gx X) W fe)) (hN : X.N[i]? = some x := by rfl) (hv : Vis X.env.scope x := by first | exact Or.inl rfl | exact Or.inr (Or.inl rfl) | exact Or.inr (Or.inr rfl)) (hd : (x == ("__debug__" : Str)) = false := by decide)
    (hcd : (x == ("__classdict__" : Str)) = false := by decide) (hs : swapsWith e (some (.Subscript (.Name x p2) b pos')) pos.line X.env = pure false := by rfl) : PS X (.Assign [.Subscript (.Name x p2) b pos'] e pos) (tS (gx X) W B (sPut i fk fe)) :=
  PS.imp (ps_dput hu (pe_var hN hv hd hcd) hb he hs) fun N σ H ⟨p, env, F, fp, s, h⟩ => by
    refine ⟨env, F, fp, s, Out.mono (OutS.bind p h) fun d env1 H1 F1 fp1 t1 s1 h1 v r => ?_⟩
    split at h1
    · rename_i kvs0 he0
      obtain ⟨w, _, _, ew, _, _, _, _⟩ := pv_of s1.re he0
      refine ⟨w, ew, env1, F1, fp1, s1, Out.mono (OutS.bind p h1) fun k env2 H2 F2 fp2 t2 s2 h2 y ry => ?_⟩
      split at h2
      · rename_i kvs he2
        split at h2
        · rename_i key ek
          split at h2
          · rename_i hl
            obtain ⟨w2, f1, fp3, e1, r2, re3, hm, hd⟩ := take_slot s2.re he2
            rw [ew] at e1
            cases e1
            cases r2 with
            | @dic a kv _ fpd ha hf q hn =>
              have na3 : a ∉ fp3 := hd a List.mem_cons_self
              obtain ⟨z1, z2, z3⟩ := own_write (ob := .dK (putK kv key v)) ⟨re3, s2.fo⟩ na3 hf ⟨_, ha⟩
              have rv : Rep X.K (upd H2 a (.dK (putK kv key v))) F2 v d := (r.tr s1.re t2).mono z3
              have q' : ROk X.K (upd H2 a (.dK (putK kv key v))) F2 kv kvs fpd := q.mono z3 fun b zb => ⟨upd_ne fun w => hn (by rw [← w]; exact zb), id⟩
              obtain ⟨fp4, q4, hm4⟩ := q'.putSh (k := key) rv
              have ro : RO X.K (upd H2 a (.dK (putK kv key v))) F2 (.ref a) (.dic (putO kvs key (.sh d))) (a :: fp4) := .dic upd_same hf q4 fun zz => hn (hm4 a zz)
              have hi : i < env2.length := (List.getElem?_eq_some_iff.mp he2).1
              obtain ⟨fp5, re5, hm5⟩ := put_slot (i := i) z2.re (by rw [List.length_set]; exact hi) ro fun b zb zb' => by
                rcases List.mem_cons.mp zb with zb | zb
                · exact na3 (by rw [← zb]; exact zb')
                · exact hd b (List.mem_cons_of_mem _ (hm4 b zb)) zb'
              rw [set_get ew, List.set_set] at re5
              refine ⟨a, _, rfl, .inl ⟨kv, key, ha, ry.key ek, by rw [q.length]; exact hl, rfl⟩, h2 σ _ F2 fp5 p ⟨fun b u e n => ?_, fun _ h => h, fun b zb => ?_⟩ ⟨re5, z2.fo⟩⟩
              · refine z1.keep b u e fun zz => n ?_
                rcases List.mem_append.mp zz with zz | zz
                · exact (hm b).mpr (.inl (by rw [List.mem_singleton.mp zz]; exact List.mem_cons_self))
                · exact (hm b).mpr (.inr zz)
              · rcases List.mem_append.mp (hm5 b zb) with zz | zz
                · rcases List.mem_cons.mp zz with zz | zz
                  · exact .inl ((hm _).mpr (.inl (by rw [zz]; exact List.mem_cons_self)))
                  · exact .inl ((hm _).mpr (.inl (List.mem_cons_of_mem _ (hm4 b zz))))
                · exact .inl ((hm _).mpr (.inr zz))
          · exact h2.elim
        · exact h2.elim
      · exact h2.elim
    · exact h1.elim
end
end VH
set_option Elab.async false
set_option linter.all false
set_option maxRecDepth 100000
set_option maxHeartbeats 4000000
namespace PySem
/-! ### enumerate of a tuple -/
section
open Sem (wp)
open AutoSeq1 (wpAny_loadPart')
theorem vh_enumNewT (l : Addr) (items : Array Value) (n : Nat) (dct : Option Addr) (sl : Array (Option Value)) :
    Meets (Builtin.«enumerate.__new__» ⟨[.type "enumerate", .ref l], []⟩) (fun _ R s => s.heap.get? l = some { cls := .type "tuple", dict := dct, data := .seq items n, slots := sl } ∧
      R (.ok (.ret (.ref (s.heap.push { cls := .type "tuple_iterator", data := .fields #[.ref l, .int 0 0] }).objs.size)))
        { s with heap := (s.heap.push { cls := .type "tuple_iterator", data := .fields #[.ref l, .int 0 0] }).push { cls := .type "enumerate", data := .fields #[.none, .bool false, .ref s.heap.objs.size, rawInt 0, .none, .none] } }) :=
  .of_wp fun prog w A R s h => by
    obtain ⟨hp, g, d, tk, os⟩ := s; obtain ⟨hl, h⟩ := h
    have hsub := sub_enumerate
    have hT : Heap.IsTuple (Shared.heap ⟨hp, g, d, tk, os⟩) l items := ⟨_, hl, rfl, n, rfl⟩
    wp_walk using wpAny_loadPart' hl
    refine wpAny_stack_any fun st => wpAny_pure ?_
    split
    · rename_i c _ _ _ _ _
      cases (c == Value.type "enumerate")
      · wp_walk using wpAny_loadPart' hl, wpAny_pyIter_tuple hT
        exact ⟨_, rfl, h⟩
      · wp_walk using wpAny_loadPart' hl, wpAny_pyIter_tuple hT
        exact ⟨_, rfl, h⟩
    · wp_walk using wpAny_loadPart' hl, wpAny_pyIter_tuple hT
      exact ⟨_, rfl, h⟩
variable {prog : Program} {w : World} {A : Around} {E : Value → Shared → Prop} {s : Shared}
theorem vh_callEnumT {l : Addr} {items : Array Value} {Q : Value → Shared → Prop} (hL : s.heap.IsTuple l items)
    (h : ∀ h', IsEnum h' (s.heap.objs.size + 1) s.heap.objs.size 0 .none → h'.IsTupleIter s.heap.objs.size l 0 → h'.objs.size = s.heap.objs.size + 2 →
      (∀ b o, s.heap.get? b = some o → h'.get? b = some o) → Q (.ref (s.heap.objs.size + 1)) { s with heap := h' }) :
    wpAny (model prog w) A (call (.type "enumerate") [.ref l]) Q E s := by
  obtain ⟨⟨c, dct, dt, sl⟩, hl, hc, n, hd⟩ := hL
  replace hc : c = .type "tuple" := hc
  replace hd : dt = .seq items n := hd
  subst hc hd
  refine callType_new F.called_enumerate (by decide) (F.typeCall_enumerate_1 _) (F.newCall_enumerate_1 _) (fun obj => F.args_object_init_2 obj _) F.entry_enumerate_new
    (vh_enumNewT l items n dct sl) ⟨hl, ?_⟩
  have hz : (s.heap.push { cls := .type "tuple_iterator", data := .fields #[.ref l, .int 0 0] }).objs.size = s.heap.objs.size + 1 := Heap.size_push ..
  show _ ∧ _
  rw [hz]
  have he : IsEnum ((s.heap.push { cls := .type "tuple_iterator", data := .fields #[.ref l, .int 0 0] }).push
      { cls := .type "enumerate", data := .fields #[.none, .bool false, .ref s.heap.objs.size, rawInt 0, .none, .none] }) (s.heap.objs.size + 1) s.heap.objs.size 0 .none := by
    have := Heap.get?_push_size (s.heap.push { cls := .type "tuple_iterator", data := .fields #[.ref l, .int 0 0] })
      (o := { cls := .type "enumerate", data := .fields #[.none, .bool false, .ref s.heap.objs.size, rawInt 0, .none, .none] }) rfl
    rw [hz] at this; exact this
  refine ⟨⟨_, he, rfl⟩, h _ he ⟨_, Heap.get?_push_of_some _ (Heap.get?_push_size _ rfl), rfl, rfl⟩ (by rw [Heap.size_push, hz]) fun b o x => Heap.get?_push_of_some _ (Heap.get?_push_of_some _ x)⟩
end
end PySem
namespace VH
open PySem PySem.Spec PyProof.Rows L2

/-- the tuple at a, each item in a new pair -/
def IteT (K : PySem.W.Frag) (a : Addr) (n : Nat) : It :=
  ⟨fun i H => ∃ (xs : List V) (x : V), SqT K H a xs ∧ xs.length = n ∧ xs[i]? = some x, fun i H v H' => ∃ T x, v = .ref T ∧ H T = none ∧ H' = upd H T (.tup [.int (i : Nat), x]) ∧ ∀ xs, SqT K H a xs → xs[i]? = some x, fun i H => ∃ xs : List V, SqT K H a xs ∧ xs.length = n ∧ n ≤ i⟩
theorem turn_enumT {P : Program} {w : World} {K : PySem.W.Frag} {elts : List Expr} {kk : Nat} {tpos : Pos} (a e it : Addr) (n : Nat) :
    Turn P w K (.Tuple elts kk tpos) (IteT K a n) [e, it] e (fun i h => i ≤ n ∧ (∃ old, IsEnum h e it ((i : Nat) : Int) old) ∧ h.IsTupleIter it a i ∧ e ≠ it ∧ a ≠ e ∧ a ≠ it) where
  mem := by simp
  obj := fun i h st b hb => by
    obtain ⟨_, ⟨old, he⟩, ⟨o, ho, hc, hd⟩, _⟩ := st
    have e' : b = e ∨ b = it := by simpa using hb
    rcases e' with z | z
    · rw [z]; exact ⟨_, he, fun v q => nomatch q⟩
    · rw [z]; exact ⟨o, ho, fun v q => by rw [hd] at q; cases q⟩
  keep := fun i h h' st k => let ⟨hn, ⟨old, he⟩, hi, hne, n1, n2⟩ := st; ⟨hn, ⟨old, k e (by simp) _ he⟩, hi.at fun o q => k it (by simp) o q, hne, n1, n2⟩
  item := by
    intro X hP hw hK hc i pins s σ H E I hf st hg
    subst hP hw hK
    obtain ⟨_, ⟨old, he⟩, hit, hne, n1, n2⟩ := st
    obtain ⟨xs, x, hq, hln, hx⟩ := hg
    obtain ⟨its, rv, p, hz⟩ := I.tuple hq
    obtain ⟨u, hu, ru⟩ := rv.get hx
    have hel : e < s.heap.objs.size := Heap.lt_size he
    have hil : it < s.heap.objs.size := by obtain ⟨_, q, _⟩ := hit; exact Heap.lt_size q
    have pt : s.heap.IsTuple a its.toArray := p
    have hin : i < its.toArray.size := by
      obtain ⟨q, _⟩ := List.getElem?_eq_some_iff.mp hu
      simpa using q
    refine wpAny_pyNext_enum_itemD (Draws.tuple (prog := X.prog) (w := X.w) (A := X.A.in1) (I.ok.hd hc) it a n2 its.toArray) he ⟨hit, pt⟩ hin hne (by
      intro q
      have q' : e = it ∨ e = a := by simpa using q
      exact q'.elim hne fun z => n1 z.symm) fun y h' tk hP ho hst hT hsz hk => ?_
    have ey : y = u := by
      have z : its.toArray[i]? = some u := by simpa using hu
      rw [z] at hP; cases hP; rfl
    subst ey
    refine ⟨_, rfl, wpAny_letOwnedTupleGo_enum (s := { s with heap := h', toks := tk + 1 }) ho fun h'' he' sb => ?_⟩
    have hT2 : h''.get? s.heap.objs.size = some { cls := .type "tuple", data := .seq #[.int i tk, y] } := (sb.2 _ (Nat.ne_of_gt hel)).trans hT
    have new : ObjOk X.prog X.w (upd H s.heap.objs.size (.tup [.int (i : Nat), x])) h'' s.heap.objs.size (.tup [.int (i : Nat), x]) :=
      ⟨by show 2 ≤ sizeLine; decide, [.int i tk, y], .cons ⟨_, rfl⟩ (.cons ru .nil), ⟨_, hT2, rfl, _, rfl⟩⟩
    have I1 : Inv X pins σ (upd H s.heap.objs.size (.tup [.int (i : Nat), x])) { s with heap := h'', toks := tk + 1 } :=
      I.turnedNew (ch := [e, it]) (fun b ob hb q => (sb.2 b (fun z => hb (by simp [z]))).trans (hk b ob (fun z => hb (by simp [z])) (fun z => hb (by simp [z])) q)) hf (Nat.le_refl _) new
    refine ⟨.ref s.heap.objs.size, _, I1, rfl, ⟨_, x, rfl, I.hok.fresh (Nat.le_refl _), rfl, fun ys hy => by rw [I.tuple_inj hy hq]; exact hx⟩, ⟨by have := (List.getElem?_eq_some_iff.mp hx).1; omega, ⟨y, ?_⟩, hst.1.at fun o q => (sb.2 it (Ne.symm hne)).trans q, hne, n1, n2⟩, fun b hb => ?_⟩
    · have e1 : ((i + 1 : Nat) : Int) = (i : Int) + 1 := by omega
      rw [e1]; exact he'
    · have hb' : b < s.heap.objs.size := by
        have e' : b = e ∨ b = it := by simpa using hb
        rcases e' with z | z
        · rw [z]; exact hel
        · rw [z]; exact hil
      rw [upd_ne (Nat.ne_of_lt hb')]
      exact (hf b hb).1
  done := by
    intro X hP hw hK hc i pins s σ H E I hf st hg
    subst hP hw hK
    obtain ⟨hin, ⟨old, he⟩, hit, hne, n1, n2⟩ := st
    obtain ⟨xs, hq, hln, hx⟩ := hg
    obtain ⟨its, rv, p, hz⟩ := I.tuple hq
    obtain ⟨f0, f1, f2, f3, f4, f5⟩ := hf it (by simp)
    have hl := rv.length
    have pt : s.heap.IsTuple a its.toArray := p
    have ei : its.toArray.size = i := by simp; omega
    exact wpAny_pyNext_enum_endD (Draws.tuple (prog := X.prog) (w := X.w) (A := X.A.in1) (I.ok.hd hc) it a n2 its.toArray) he ⟨by rw [ei]; exact hit, pt⟩ fun h' eb => ⟨rfl, I.turned (t' := s.toks) (fun b o hb q => eb b o hb q) f0 f1 f3 f4 f5⟩
  self := fun A i s Q E st h => let ⟨_, ⟨_, he⟩, _⟩ := st; wpAny_pyIter_enum he h
theorem iterFp {X : Cx} {pins : List (Addr × Obj)} {σ : Sg} {H : Hp} {s : Shared} (I : Inv X pins σ H s) {b : Addr} (h : b = s.heap.objs.size + 1 ∨ b = s.heap.objs.size) : FpOk X pins H b := by
  have hle : s.heap.objs.size ≤ b := by
    rcases h with z | z
    · rw [z]; exact Nat.le_add_right _ _
    · rw [z]; exact Nat.le_refl _
  exact I.fpOk hle (I.hok.fresh hle)

/-! ### what is walked, as data -/
theorem Stb.trans {H H1 H2 : Hp} {F F1 F2 : FA} (a : Stb H F H1 F1) (b : Stb H1 F1 H2 F2) : Stb H F H2 F2 :=
  ⟨fun x u f e n m => b.un x u (a.fz x f) (a.un x u f e n m) n m, fun x u f e => b.rd x u (a.fz x f) (a.rd x u f e), fun x f => b.fz x (a.fz x f)⟩
structure Wk (K : PySem.W.Frag) (J : It) (H : Hp) (F : FA) (items : List D) : Prop where
  len : items.length ≤ sizeLine
  go : ∀ H2 F2, Stb H F H2 F2 → ∀ i d, items[i]? = some d → J.go i H2 ∧ ∀ x H', J.yld i H2 x H' → ∃ F', Nw H2 F2 H' F' ∧ Rep K H' F' x d
  stop : ∀ H2 F2, Stb H F H2 F2 → ∀ i, items.length ≤ i → J.stop i H2
def tI (G : Gx) (W : WX) (f : En → Rs (List D)) : TI := fun σ H R => ∃ env F fp, Sta G.K H F σ env fp ∧ Out G W σ fp H F (f env) fun items _ H' F' _ => ∀ J, Wk G.K J H' F' items → R J H'
theorem PI.imp {X : Cx} {tg e : Expr} {t t' : TI} (h : PI X tg e t) (k : ∀ σ H R, t' σ H R → t σ H R) : PI X tg e t' := ⟨fun pins s σ H R I w => h.run pins s σ H R I (k σ H R w)⟩
section
variable {K : PySem.W.Frag} {H : Hp} {F : FA} {a : Addr} {xs : List V} {ds : List D}
theorem wk_list (f : FL H F a xs) (q : RepA K H F xs ds) (hz : xs.length ≤ sizeLine) : Wk K (Itl K a) H F ds where
  len := by rw [← q.length]; exact hz
  go := fun H2 F2 sb i d e => by
    have f2 : FL H2 F2 a xs := ⟨sb.fz _ f.1, sb.un _ _ f.1 f.2 (fun _ _ z => nomatch z) fun _ z => nomatch z⟩
    obtain ⟨v, ev, r⟩ := (q.mono sb).get e
    refine ⟨⟨xs, v, f2.sq, ev⟩, fun x H' ⟨eH, y⟩ => ?_⟩
    subst eH
    have z := y xs f2.sq
    rw [ev] at z; cases z
    exact ⟨F2, .refl, r⟩
  stop := fun H2 F2 sb i h => by
    have f2 : FL H2 F2 a xs := ⟨sb.fz _ f.1, sb.un _ _ f.1 f.2 (fun _ _ z => nomatch z) fun _ z => nomatch z⟩
    exact ⟨xs, f2.sq, by rw [q.length]; exact h⟩
theorem FT.mono {H2 : Hp} {F2 : FA} (f : FT K H F a xs) (sb : Stb H F H2 F2) : FT K H2 F2 a xs := by
  rcases f with f | f
  · exact .inl ⟨sb.fz _ f.1, sb.un _ _ f.1 f.2 (fun _ _ z => nomatch z) fun _ z => nomatch z⟩
  · exact .inr f
theorem wk_tup (f : FT K H F a xs) (q : RepA K H F xs ds) (hz : xs.length ≤ sizeLine) : Wk K (Itt K a) H F ds where
  len := by rw [← q.length]; exact hz
  go := fun H2 F2 sb i d e => by
    obtain ⟨v, ev, r⟩ := (q.mono sb).get e
    refine ⟨⟨xs, v, (f.mono sb).sq, ev⟩, fun x H' ⟨eH, y⟩ => ?_⟩
    subst eH
    have z := y xs (f.mono sb).sq
    rw [ev] at z; cases z
    exact ⟨F2, .refl, r⟩
  stop := fun H2 F2 sb i h => ⟨xs, (f.mono sb).sq, by rw [q.length]; exact h⟩
def pairD (i : Nat) (d : D) : D := .tuple [.int i, d]
def enumL (ds : List D) : List D := ds.zipIdx.map fun p => pairD p.2 p.1
theorem enumL_len (ds : List D) : (enumL ds).length = ds.length := by simp [enumL]
theorem enumL_get {ds : List D} {i : Nat} {d : D} (h : (enumL ds)[i]? = some d) : ∃ e, ds[i]? = some e ∧ d = pairD i e := by
  unfold enumL at h
  rw [List.getElem?_map, List.getElem?_zipIdx] at h
  cases q : ds[i]? with
  | none => rw [q] at h; cases h
  | some e =>
    rw [q] at h
    refine ⟨e, rfl, ?_⟩
    simp at h
    exact h.symm
theorem wk_enum (f : FL H F a xs) (q : RepA K H F xs ds) (hz : xs.length ≤ sizeLine) : Wk K (Ite K a) H F (enumL ds) where
  len := by rw [enumL_len, ← q.length]; exact hz
  go := fun H2 F2 sb i d e => by
    have f2 : FL H2 F2 a xs := ⟨sb.fz _ f.1, sb.un _ _ f.1 f.2 (fun _ _ z => nomatch z) fun _ z => nomatch z⟩
    obtain ⟨d0, e0, rfl⟩ := enumL_get e
    obtain ⟨v, ev, r⟩ := (q.mono sb).get e0
    refine ⟨⟨xs, v, f2.sq, ev⟩, fun x H' ⟨T, y, ex, nT, eH, yy⟩ => ?_⟩
    have z := yy xs f2.sq
    rw [ev] at z; cases z
    subst ex eH
    exact ⟨_, Nw.lay nT, .tup (.inl ⟨.inr rfl, upd_same⟩) (.cons (.int _) (.cons (r.nw (Nw.lay nT)) .nil))⟩
  stop := fun H2 F2 sb i h => by
    have f2 : FL H2 F2 a xs := ⟨sb.fz _ f.1, sb.un _ _ f.1 f.2 (fun _ _ z => nomatch z) fun _ z => nomatch z⟩
    exact ⟨xs, f2.sq, by rw [q.length, ← enumL_len]; exact h⟩
theorem wk_enumT (f : FT K H F a xs) (q : RepA K H F xs ds) (hz : xs.length ≤ sizeLine) : Wk K (IteT K a xs.length) H F (enumL ds) where
  len := by rw [enumL_len, ← q.length]; exact hz
  go := fun H2 F2 sb i d e => by
    obtain ⟨d0, e0, rfl⟩ := enumL_get e
    obtain ⟨v, ev, r⟩ := (q.mono sb).get e0
    refine ⟨⟨xs, v, (f.mono sb).sq, rfl, ev⟩, fun x H' ⟨T, y, ex, nT, eH, yy⟩ => ?_⟩
    have z := yy xs (f.mono sb).sq
    rw [ev] at z; cases z
    subst ex eH
    exact ⟨_, Nw.lay nT, .tup (.inl ⟨.inr rfl, upd_same⟩) (.cons (.int _) (.cons (r.nw (Nw.lay nT)) .nil))⟩
  stop := fun H2 F2 sb i h => ⟨xs, (f.mono sb).sq, rfl, by rw [q.length, ← enumL_len]; exact h⟩
def rngL (lo : Int) (n : Nat) : List D := (List.range n).map fun (i : Nat) => .int (lo + i)
theorem wk_rng {lo : Int} {n : Nat} (hz : n ≤ sizeLine) : Wk K (Itr lo n) H F (rngL lo n) where
  len := by simpa [rngL] using hz
  go := fun H2 F2 sb i d e => by
    unfold rngL at e
    rw [List.getElem?_map] at e
    cases q : (List.range n)[i]? with
    | none => rw [q] at e; cases e
    | some j =>
      rw [q] at e
      obtain ⟨h1, h2⟩ := List.getElem?_eq_some_iff.mp q
      rw [List.getElem_range] at h2
      subst h2
      cases e
      exact ⟨show i < n by simpa using h1, fun x H' ⟨e1, e2⟩ => by subst e1 e2; exact ⟨F2, .refl, .int _⟩⟩
  stop := fun H2 F2 sb i h => show n ≤ i by simpa [rngL] using h
def charL (z : Str) : List D := z.cps.toList.map fun c => .str ⟨#[c]⟩
theorem wk_str {z : Str} (hz : z.length ≤ sizeLine) : Wk K (Its z) H F (charL z) where
  len := by simpa [charL, Str.length] using hz
  go := fun H2 F2 sb i d e => by
    unfold charL at e
    rw [List.getElem?_map, Array.getElem?_toList] at e
    cases q : z.cps[i]? with
    | none => rw [q] at e; cases e
    | some c =>
      rw [q] at e
      cases e
      refine ⟨(Array.getElem?_eq_some_iff.mp q).1, fun x H' ⟨e1, c', e2, e3⟩ => ?_⟩
      rw [q] at e2; cases e2
      subst e1 e3
      exact ⟨F2, .refl, .str _⟩
  stop := fun H2 F2 sb i h => show z.cps.size ≤ i by simpa [charL] using h
end
end VH
set_option Elab.async false
set_option linter.all false
set_option maxRecDepth 100000
set_option maxHeartbeats 4000000
namespace VH
open PySem PySem.Spec PyProof.Rows L2

/-! ### sources -/
def itemsD : D → Option (List D)
  | .list xs => some xs
  | .tuple xs => some xs
  | .str z => if z.length ≤ sizeLine then some (charL z) else none
  | _ => none
def eSeq (f : En → Rs D) : En → Rs (List D) := fun env₀ => (bnd f fun d => lift (itemsD d)) env₀
def enumD : D → Option (List D)
  | .list xs => some (enumL xs)
  | .tuple xs => some (enumL xs)
  | _ => none
def eEnum (f : En → Rs D) : En → Rs (List D) := fun env₀ => (bnd f fun d => lift (enumD d)) env₀
def rngD (i j : D) : Option (List D) := match i, j with
  | .int i, .int j => if -(2 ^ 62) ≤ i ∧ i < 2 ^ 62 ∧ -(2 ^ 62) ≤ j ∧ j < 2 ^ 62 ∧ (j - i).toNat ≤ sizeLine then some (rngL i (j - i).toNat) else none
  | _, _ => none
def rng1D : D → Option (List D)
  | .int j => if -(2 ^ 62) ≤ j ∧ j < 2 ^ 62 ∧ j.toNat ≤ sizeLine then some (rngL 0 j.toNat) else none
  | _ => none
def eRng (f : En → Rs D) : En → Rs (List D) := fun env₀ => (bnd f fun d => lift (rng1D d)) env₀
def eRng2 (f g : En → Rs D) : En → Rs (List D) := fun env₀ => (bnd f fun d => bnd g fun e => lift (rngD d e)) env₀
section
variable {X : Cx} {W : WX} {B : Bx} {e e2 tg : Expr} {f g : En → Rs D} {pos p : Pos}
theorem tI_D {op : D → Option (List D)} {σ : Sg} {H : Hp} {R : It → Hp → Prop} (h : tI (gx X) W (bnd f fun d => lift (op d)) σ H R) :
    tD (gx X) W f σ H fun x H1 => ∃ F1 d items, Rep X.K H1 F1 x d ∧ op d = some items ∧ ∀ J, Wk X.K J H1 F1 items → R J H1 := by
  obtain ⟨env, F, fp, st, h⟩ := h
  refine ⟨env, F, fp, st, Out.mono h.bind fun d env1 H1 F1 fp1 t1 s1 h1 v r => ?_⟩
  obtain ⟨l, el, h2⟩ := h1.lift
  exact ⟨F1, d, l, r, el, h2 H1 F1 fp1 .refl s1⟩
theorem tI_D2 {op : D → D → Option (List D)} {σ : Sg} {H : Hp} {R : It → Hp → Prop} (h : tI (gx X) W (bnd f fun d => bnd g fun e => lift (op d e)) σ H R) :
    tD (gx X) W f σ H fun x H1 => tD (gx X) W g σ H1 fun y H2 => ∃ F2 d e items, Rep X.K H2 F2 x d ∧ Rep X.K H2 F2 y e ∧ op d e = some items ∧ ∀ J, Wk X.K J H2 F2 items → R J H2 := by
  obtain ⟨env, F, fp, st, h⟩ := h
  refine ⟨env, F, fp, st, Out.mono h.bind fun d env1 H1 F1 fp1 t1 s1 h1 v r => ?_⟩
  refine ⟨env1, F1, fp1, s1, Out.mono h1.bind fun d2 env2 H2 F2 fp2 t2 s2 h2 v2 r2 => ?_⟩
  obtain ⟨l, el, h3⟩ := h2.lift
  exact ⟨F2, d, d2, l, r.tr s1.re t2, r2, el, h3 H2 F2 fp2 .refl s2⟩
theorem pid_seq (he : PE X e (tD (gx X) W f)) : PI X tg e (tI (gx X) W (eSeq f)) := by
  refine ⟨fun pins s σ H R I h => ?_⟩
  refine thn (he.run pins s σ H _ I (tI_D h)) fun v s1 ⟨x, H1, I1, r1, F1, d, items, r, e1, k⟩ => ?_
  unfold itemsD at e1
  split at e1
  · cases e1
    cases r with
    | @lst a xs ds fl q =>
      cases r1
      obtain ⟨its, rv, pl, hz⟩ := I1.list fl.sq
      refine wpAny_pyIter_list pl.isList ⟨s1.heap.objs.size, [s1.heap.objs.size], _, _, H1, rfl, I1.kept (t' := s1.toks) fun b o z => Heap.get?_push_of_some _ z, turn_list a _, ⟨_, Heap.get?_push_size _ rfl, rfl, rfl⟩, fun b hb => ?_, k _ (wk_list fl q hz)⟩
      rw [List.mem_singleton.mp hb]
      exact iterFp I1 (.inr rfl)
  · cases e1
    cases r with
    | @tup a xs ds fl q =>
      cases r1
      obtain ⟨its, rv, pl, hz⟩ := I1.tuple fl.sq
      refine wpAny_pyIter_tuple (show s1.heap.IsTuple a its.toArray from pl) ⟨s1.heap.objs.size, [s1.heap.objs.size], _, _, H1, rfl, I1.kept (t' := s1.toks) fun b o z => Heap.get?_push_of_some _ z, turn_tuple a _, ⟨_, Heap.get?_push_size _ rfl, rfl, rfl⟩, fun b hb => ?_, k _ (wk_tup fl q hz)⟩
      rw [List.mem_singleton.mp hb]
      exact iterFp I1 (.inr rfl)
  · rename_i z
    split at e1
    · rename_i hz
      cases e1
      cases r with
      | str =>
        obtain ⟨t, rfl⟩ := r1
        refine wpAny_pyIter_strU ?_
        refine pi_one (tk := s1.toks) I1 _ (turn_str _ z t (strIterType z) ?_) ?_ (k _ (wk_str hz))
        · unfold strIterType
          split
          · exact .inl rfl
          · exact .inr rfl
        · exact ⟨_, Heap.get?_push_size _ rfl, rfl, rfl⟩
    · cases e1
  · cases e1
theorem pid_rng {a : Expr} (hg : Gl X "range") (hm : X.mg "range" = none) (ha : PE X a (tD (gx X) W f)) (hs : starEach [a] X.env = [(false, eval a X.env)] := by rfl) : PI X tg (.Call (.Name "range" p) [a] [] pos) (tI (gx X) W (eRng f)) :=
  PI.imp (pi_range1 hg hm (pa_cons ha pa_nil hs) hs) fun σ H R h => by
    refine tD_imp (tI_D h) fun v H1 ⟨F1, d, items, r, ed, k⟩ => ?_
    unfold rng1D at ed
    split at ed
    · split at ed
      · rename_i hb
        cases ed
        cases r
        exact ⟨_, rfl, hb.1, hb.2.1, k _ (wk_rng hb.2.2)⟩
      · cases ed
    · cases ed
theorem pid_rng2 {a b : Expr} (hg : Gl X "range") (hm : X.mg "range" = none) (ha : PE X a (tD (gx X) W f)) (hb : PE X b (tD (gx X) W g)) (hs : starEach [a, b] X.env = [(false, eval a X.env), (false, eval b X.env)] := by rfl) (hs2 : starEach [b] X.env = [(false, eval b X.env)] := by rfl) :
    PI X tg (.Call (.Name "range" p) [a, b] [] pos) (tI (gx X) W (eRng2 f g)) :=
  PI.imp (pi_range2 hg hm (pa_cons ha (pa_cons hb pa_nil hs2) (by rw [hs, hs2])) hs hs2) fun σ H R h => by
    refine tD_imp (tI_D2 h) fun v H1 hq => tD_imp hq fun v2 H2 ⟨F2, d, e, items, r, r2, ed, k⟩ => ?_
    unfold rngD at ed
    split at ed
    · split at ed
      · rename_i hb
        cases ed
        cases r
        cases r2
        exact ⟨_, _, rfl, ⟨hb.1, hb.2.1, hb.2.2.1, hb.2.2.2.1⟩, k _ (wk_rng hb.2.2.2.2)⟩
      · cases ed
    · cases ed
theorem pid_enum {a : Expr} {elts : List Expr} {kk : Nat} {tpos : Pos} (hg : Gl X "enumerate") (hm : X.mg "enumerate" = none) (ha : PE X a (tD (gx X) W f)) (hs : starEach [a] X.env = [(false, eval a X.env)] := by rfl) :
    PI X (.Tuple elts kk tpos) (.Call (.Name "enumerate" p) [a] [] pos) (tI (gx X) W (eEnum f)) := by
  refine ⟨fun pins s σ H R I h => ?_⟩
  refine Call_ (ld_blt I hg hm boot_enumerate (PyProof.Rows.callWith_type1 (thn ((pa_cons ha pa_nil hs).run pos pins s σ H (fun vs H1 => ∃ x F1 d items, vs = [x] ∧ Rep X.K H1 F1 x d ∧ enumD d = some items ∧ ∀ J, Wk X.K J H1 F1 items → R J H1) I
    (tD_imp (tI_D h) fun x H1 ⟨F1, d, items, q⟩ => ⟨x, F1, d, items, rfl, q⟩)) fun us s1 ⟨vs, H1, I1, r1, q1⟩ => ?_) hs rfl))
  obtain ⟨x, F1, d, items, rfl, r, ed, k⟩ := q1
  obtain ⟨u, rfl, ru⟩ := vals1 r1
  unfold enumD at ed
  split at ed
  · cases ed
    cases r with
    | @lst a xs ds fl q =>
      cases ru
      obtain ⟨its, rv, pl, hz⟩ := I1.list fl.sq
      refine call_enumerate_list pl.isList fun h' he hit hsz hk => wpAny_pyIter_enum he ?_
      have I2 : Inv X pins σ H1 { s1 with heap := h' } := I1.kept (t' := s1.toks) hk
      exact ⟨s1.heap.objs.size + 1, [s1.heap.objs.size + 1, s1.heap.objs.size], _, _, H1, rfl, I2, turn_enum a (s1.heap.objs.size + 1) s1.heap.objs.size, ⟨⟨.none, he⟩, hit, Nat.succ_ne_self _⟩, fun b hb => iterFp I1 (by simpa using hb), k _ (wk_enum fl q hz)⟩
  · cases ed
    cases r with
    | @tup a xs ds fl q =>
      cases ru
      obtain ⟨its, rv, pl, hz⟩ := I1.tuple fl.sq
      have pt : s1.heap.IsTuple a its.toArray := pl
      have hlt : a < s1.heap.objs.size := pl.lt
      refine vh_callEnumT pt fun h' he hit hsz hk => wpAny_pyIter_enum he ?_
      have I2 : Inv X pins σ H1 { s1 with heap := h' } := I1.kept (t' := s1.toks) hk
      exact ⟨s1.heap.objs.size + 1, [s1.heap.objs.size + 1, s1.heap.objs.size], _, _, H1, rfl, I2, turn_enumT a (s1.heap.objs.size + 1) s1.heap.objs.size xs.length, ⟨Nat.zero_le _, ⟨.none, he⟩, hit, Nat.succ_ne_self _, Nat.ne_of_lt (Nat.lt_succ_of_lt hlt), Nat.ne_of_lt hlt⟩, fun b hb => iterFp I1 (by simpa using hb), k _ (wk_enumT fl q hz)⟩
  · cases ed
/-! ### for -/
def loopS (tg : Tg) (body : En → Rs Fl) : List D → En → Rs Fl
  | [], env => .ok .nx env
  | d :: ds, env => match tg d env with
    | none => .bad
    | some env1 => match body env1 with
      | .ok .nx env2 => loopS tg body ds env2
      | .ok .cnt env2 => loopS tg body ds env2
      | .ok .brk env2 => .ok .nx env2
      | .ok (.ret o) env2 => .ok (.ret o) env2
      | .exc x env2 => .exc x env2
      | .bad => .bad
def sFor (fi : En → Rs (List D)) (tg : Tg) (body : En → Rs Fl) : En → Rs Fl := fun env₀ => (bnd fi fun items => loopS tg body items) env₀
theorem drop_at {α : Type} {l : List α} {i : Nat} (h : i < l.length) : l.drop i = l[i] :: l.drop (i + 1) := List.drop_eq_getElem_cons h
theorem psd_for {ix : List Nat} {t iter : Expr} {body : List Stmt} {fi : En → Rs (List D)} {tg : Tg} {fb : En → Rs Fl} (hp : PassesOwn (model X.prog X.w) X.A X.env X.xe) (hc : X.calm = true) (hi : PI X t iter (tI (gx X) W fi)) (hg : PG X t (tG (gx X) B ix tg)) (hb : PSs X body (tS (gx X) W B fb))
    (hs : ∀ x, foldedSetIterable iter X.env x = pure x := by intro _; rfl) : PS X (.For t iter body [] pos) (tS (gx X) W B (sFor fi tg fb)) := PS.imp (ps_for hp hc hi hg hb hs) fun N σ H ⟨p, env, F, fp, s, h⟩ => by
  refine ⟨env, F, fp, s, Out.mono (OutS.bind p h) fun items env1 H1 F1 fp1 t1 s1 h1 J wk => ?_⟩
  refine ⟨fun i m σ2 H2 => m = items.length - i ∧ i ≤ items.length ∧ Pin B.bs B.vs σ2 ∧ ∃ env2 F2 fp2, Sta X.K H2 F2 σ2 env2 fp2 ∧ Stb H1 F1 H2 F2 ∧ OutS (gx X) W B fp2 H2 F2 (loopS tg fb (items.drop i) env2) N,
    ⟨items.length, by simp, Nat.zero_le _, p, env1, F1, fp1, s1, .refl, by simpa using h1⟩, ?_⟩
  rintro i m σ2 H2 ⟨rfl, hi, p2, env2, F2, fp2, s2, sb, h2⟩
  by_cases hlt : i < items.length
  · have ei : items[i]? = some items[i] := List.getElem?_eq_getElem hlt
    obtain ⟨go, yl⟩ := wk.go H2 F2 sb i _ ei
    refine .inr ⟨go, fun σ3 H3 => Pin B.bs B.vs σ3 ∧ ∃ env3 F3 fp3, Sta X.K H3 F3 σ3 env3 fp3 ∧ Stb H1 F1 H3 F3 ∧ OutS (gx X) W B fp3 H3 F3 (loopS tg fb (items.drop (i + 1)) env3) N,
      fun σ3 H3 q => ⟨items.length - (i + 1), by omega, rfl, hlt, q⟩, fun x H' y => ?_⟩
    obtain ⟨F', n, r⟩ := yl x H' y
    rw [drop_at hlt] at h2
    unfold loopS at h2
    split at h2
    · exact h2.elim
    · rename_i env3 e3
      refine ⟨p2, env2, F', fp2, _, env3, n.sta s2, r, e3, fun σ4 H4 F4 fp4 p4 _ t4 s4 => ⟨p4, env3, F4, fp4, s4, ?_⟩⟩
      have sb4 : Stb H1 F1 H4 F4 := (sb.trans n.stb).trans (t4.stb (n.sta s2).re.nf)
      have t24 : Tr fp2 H2 F2 H4 F4 fp4 := n.tr.trans t4
      have next : ∀ env5, OutS (gx X) W B fp2 H2 F2 (loopS tg fb (items.drop (i + 1)) env5) N → ∀ σ5 H5 F5 fp5, Pin B.bs B.vs σ5 → Tr fp4 H4 F4 H5 F5 fp5 → Sta X.K H5 F5 σ5 env5 fp5 →
          Pin B.bs B.vs σ5 ∧ ∃ env3 F3 fp3, Sta X.K H5 F3 σ5 env3 fp3 ∧ Stb H1 F1 H5 F3 ∧ OutS (gx X) W B fp3 H5 F3 (loopS tg fb (items.drop (i + 1)) env3) N :=
        fun env5 h5 σ5 H5 F5 fp5 p5 t5 s5 => ⟨p5, env5, F5, fp5, s5, sb4.trans (t5.stb s4.re.nf), OutS.later (t24.trans t5) h5⟩
      cases eb : fb env3 with
      | ok fl env5 =>
        rw [eb] at h2
        cases fl with
        | nx => exact next env5 h2
        | cnt => exact next env5 h2
        | brk => exact fun σ5 H5 F5 fp5 p5 t5 s5 => h2 σ5 H5 F5 fp5 p5 (t24.trans t5) s5
        | ret o => exact fun σ5 H5 F5 fp5 v fr p5 t5 s5 => h2 σ5 H5 F5 fp5 v fr p5 (t24.trans t5) s5
      | exc x env5 => rw [eb] at h2; exact fun σ5 H5 F5 fp5 c o p5 t5 s5 => h2 σ5 H5 F5 fp5 c o p5 (t24.trans t5) s5
      | bad => rw [eb] at h2; exact h2
  · have e : i = items.length := by omega
    subst e
    refine .inl ⟨wk.stop H2 F2 sb _ (Nat.le_refl _), ?_⟩
    rw [List.drop_length] at h2
    exact h2 σ2 H2 F2 fp2 p2 .refl s2
end
end VH
set_option Elab.async false
set_option linter.all false
set_option maxRecDepth 100000
set_option maxHeartbeats 4000000
namespace VH
open PySem PySem.Spec PyProof.Rows L2

def dropE : List Nat → En → En
  | [], env => env
  | i :: ix, env => (dropE ix env).set i none
theorem dropE_length : ∀ {ix : List Nat} {env : En}, (dropE ix env).length = env.length
  | [], _ => rfl
  | i :: ix, env => by unfold dropE; rw [List.length_set, dropE_length]
theorem dropE_get {ix : List Nat} {env : En} {i : Nat} (h : i ∈ ix) : ∀ o, (dropE ix env)[i]? ≠ some (some o) := by
  intro o
  induction ix with
  | nil => cases h
  | cons j ix ih =>
    unfold dropE
    by_cases e : j = i
    · subst e
      by_cases hl : j < (dropE ix env).length
      · rw [List.getElem?_set_self hl]; intro q; cases q
      · rw [List.getElem?_eq_none (by rw [List.length_set]; omega)]; intro q; cases q
    · rw [List.getElem?_set_ne e]
      exact ih ((List.mem_cons.mp h).resolve_left fun q => e q.symm)
theorem set_over {α : Type} {l : List α} {i : Nat} {a : α} (h : ¬ i < l.length) : l.set i a = l := by
  apply List.ext_getElem?
  intro j
  by_cases e : i = j
  · subst e
    rw [List.getElem?_eq_none (by rw [List.length_set]; omega), List.getElem?_eq_none (by omega)]
  · rw [List.getElem?_set_ne e]
theorem REnv.drop {K : PySem.W.Frag} {H : Hp} {F : FA} {σ : Sg} {env : En} {fp : List Addr} (r : REnv K H F σ env fp) : ∀ ix : List Nat, ∃ fp', REnv K H F (wipe σ ix) (dropE ix env) fp' ∧ ∀ a ∈ fp', a ∈ fp
  | [] => ⟨fp, r, fun _ h => h⟩
  | i :: ix => by
    obtain ⟨fp1, r1, h1⟩ := REnv.drop r ix
    unfold wipe dropE
    by_cases hl : i < (dropE ix env).length
    · obtain ⟨v, o, f1, fr, e1, e2, rs, hm, hd, hk⟩ := r1.split i hl
      obtain ⟨fp', re, hm'⟩ := hk H F none none [] .refl (fun _ _ => ⟨rfl, id⟩) .no fun _ q => nomatch q
      exact ⟨fp', re, fun a q => h1 a ((hm a).mpr (.inr (((hm' a).mp q).resolve_left (by simp))))⟩
    · rw [set_over hl, set_over (by rw [r1.length]; exact hl)]
      exact ⟨fp1, r1, h1⟩
theorem REnv.slots {K : PySem.W.Frag} {H : Hp} {F : FA} : ∀ {σ σ' : Sg} {env : En} {fp : List Addr}, REnv K H F σ env fp → σ'.length = σ.length → (∀ (i : Nat) (o : O), env[i]? = some (some o) → σ'[i]? = σ[i]?) → REnv K H F σ' env fp
  | _, [], _, _, .nil, _, _ => .nil
  | _, _ :: _, _, _, .nil, h, _ => by cases h
  | _, [], _, _, .cons _ _ _, h, _ => by cases h
  | _, v' :: σ', _, _, .cons (v := v) (o := o) h t d, hl, k => by
    refine .cons ?_ (REnv.slots t (by simpa using hl) fun i o e => by simpa using k (i + 1) o (by simpa using e)) d
    cases h with
    | no => exact .no
    | yes r =>
      have e := k 0 _ rfl
      simp at e
      subst e
      exact .yes r
theorem wipe_wipe {σ : Sg} {ix : List Nat} : wipe (wipe σ ix) ix = wipe σ ix := by
  apply List.ext_getElem?
  intro j
  rw [wipe_get, wipe_get, wipe_length]
  split <;> rfl
theorem REnv.unwipe {K : PySem.W.Frag} {H : Hp} {F : FA} {σ : Sg} {env : En} {fp : List Addr} {ix : List Nat} (r : REnv K H F (wipe σ ix) env fp) (h : ∀ i ∈ ix, ∀ o, env[i]? ≠ some (some o)) : REnv K H F σ env fp :=
  r.slots (wipe_length σ ix).symm fun i o e => by
    rw [wipe_get, if_neg fun q => h i q.1 o e]
/-- the items of a list comprehension -/
def compM (tg : Tg) (ix : List Nat) (fc : En → Rs Bool) (fe : En → Rs D) : List D → En → Rs (List D)
  | [], env => .ok [] env
  | d :: ds, env => match tg d env with
    | none => .bad
    | some env1 => match fc env1 with
      | .ok b env2 => if b = true then (match fe env2 with
          | .ok y env3 => match compM tg ix fc fe ds (dropE ix env3) with
            | .ok ys e => .ok (y :: ys) e
            | _ => .bad
          | _ => .bad) else compM tg ix fc fe ds (dropE ix env2)
      | _ => .bad
def oComp (fi : En → Rs (List D)) (tg : Tg) (ix : List Nat) (fc : En → Rs Bool) (fe : En → Rs D) : En → Rs O := fun env₀ => (bnd fi fun items env => match compM tg ix fc fe items (dropE ix env) with
  | .ok ys e => .ok (.lst ys) e
  | _ => .bad) env₀
abbrev W0 : WX := fun _ _ _ _ => False
abbrev B0 : Bx := ⟨[], []⟩
theorem pin0 {σ : Sg} : Pin B0.bs B0.vs σ := fun i v e => by simp [B0] at e
section
variable {X : Cx} {W : WX} {B : Bx} {pos : Pos}
theorem PTs.imp {ifs : List Expr} {t t' : TT} (h : PTs X ifs t) (k : ∀ σ H Q, t' σ H Q → t σ H Q) : PTs X ifs t' := ⟨fun pins s σ H Q I w => h.run pins s σ H Q I (k σ H Q w)⟩
theorem ptsd_nil : PTs X [] (tT (gx X) W (ret true)) := PTs.imp pts_nil fun σ H Q ⟨env, F, fp, s, h⟩ => h H F fp .refl s
theorem ptsd_one {c : Expr} {f : En → Rs Bool} (h : PT X c (tT (gx X) W f)) : PTs X [c] (tT (gx X) W f) := pts_one h
theorem lc_read {fi : En → Rs (List D)} {tg : Tg} {ix : List Nat} {fc : En → Rs Bool} {fe : En → Rs D} {G : Gx} {σ : Sg} {H : Hp} {Q : VK} (h : tO G W (oComp fi tg ix fc fe) σ H Q) :
    tLc (tI G W fi) (tG G B0 ix tg) (tT G W0 fc) (tD G W0 fe) ix σ H Q := by
  obtain ⟨env, F, fp, st, h⟩ := h
  refine ⟨env, F, fp, st, Out.mono (OutO.bind h) fun items env1 H1 F1 fp1 t1 s1 h1 J wk Dd nD => ?_⟩
  have h1 : OutO G W σ fp1 H1 F1 (match compM tg ix fc fe items (dropE ix env1) with
    | .ok ys e => .ok (.lst ys) e
    | _ => .bad) fun _ _ H' _ _ v _ => Q v H' := h1
  cases ec : compM tg ix fc fe items (dropE ix env1) with
  | exc x e => rw [ec] at h1; exact h1.elim
  | bad => rw [ec] at h1; exact h1.elim
  | ok ys0 envf =>
    rw [ec] at h1
    obtain ⟨z1, z2, z3, z4, z5⟩ := own_new (ob := .lst []) s1 nD
    obtain ⟨fpd, red, hmd⟩ := z2.re.drop ix
    refine ⟨fun i m H2 => m = items.length - i ∧ i ≤ items.length ∧ ∃ env2 F2 fp2 accV accD ys, Sta G.K H2 F2 (wipe σ ix) env2 fp2 ∧ Stb H1 F1 H2 F2 ∧ Tr fp1 H1 F1 H2 F2 fp2 ∧ H2 Dd = some (.lst accV) ∧ ¬ F2 Dd ∧ Dd ∉ fp2 ∧ RepA G.K H2 F2 accV accD ∧ accD.length ≤ i ∧
      compM tg ix fc fe (items.drop i) env2 = .ok ys envf ∧ accD ++ ys = ys0 ∧ ∀ i ∈ ix, ∀ o, env2[i]? ≠ some (some o), ⟨items.length, by simp, Nat.zero_le _, dropE ix env1, F1, fpd, [], [], ys0, ⟨red, z2.fo⟩, z5, ?_, upd_same, z3, ?_, .nil, Nat.zero_le _, by simpa using ec, rfl, fun i h o => dropE_get h o⟩, ?_⟩
    · exact z1.less fun a q => List.mem_append_right _ (hmd a q)
    · exact fun q => z4 Dd (List.mem_singleton.mpr rfl) (hmd Dd q)
    rintro i m H2 ⟨rfl, hi, env2, F2, fp2, accV, accD, ys, s2, sb, t2, hD, nF, nfp, ra, hal, em, ea, hdrop⟩
    by_cases hlt : i < items.length
    · have ei : items[i]? = some items[i] := List.getElem?_eq_getElem hlt
      obtain ⟨go, yl⟩ := wk.go H2 F2 sb i _ ei
      refine .inr ⟨go, fun H3 => ∃ env2 F3 fp3 accV accD ys, Sta G.K H3 F3 (wipe σ ix) env2 fp3 ∧ Stb H1 F1 H3 F3 ∧ Tr fp1 H1 F1 H3 F3 fp3 ∧ H3 Dd = some (.lst accV) ∧ ¬ F3 Dd ∧ Dd ∉ fp3 ∧ RepA G.K H3 F3 accV accD ∧ accD.length ≤ i + 1 ∧
        compM tg ix fc fe (items.drop (i + 1)) env2 = .ok ys envf ∧ accD ++ ys = ys0 ∧ ∀ i ∈ ix, ∀ o, env2[i]? ≠ some (some o), fun H3 q => ⟨items.length - (i + 1), by omega, rfl, hlt, q⟩, fun x H' y => ?_⟩
      obtain ⟨F', n, r⟩ := yl x H' y
      rw [drop_at hlt] at em
      unfold compM at em
      split at em
      · cases em
      · rename_i env3 e3
        refine ⟨pin0, env2, F', fp2, _, env3, n.sta s2, r, e3, fun σ4 H4 F4 fp4 _ w4 t4 s4 => ⟨by rw [w4, wipe_wipe], ?_⟩⟩
        rw [wipe_wipe] at w4
        have t24 : Tr fp2 H2 F2 H4 F4 fp4 := n.tr.trans t4
        refine ⟨env3, F4, fp4, s4, ?_⟩
        -- what is kept of the new list through a step that starts from where it stands
        have keepD : ∀ {H5 F5 fp5}, Tr fp2 H2 F2 H5 F5 fp5 → H5 Dd = some (.lst accV) ∧ ¬ F5 Dd ∧ Dd ∉ fp5 ∧ RepA G.K H5 F5 accV accD ∧ Stb H1 F1 H5 F5 ∧ Tr fp1 H1 F1 H5 F5 fp5 := fun {H5 F5 fp5} t5 => by
          obtain ⟨a1, a2⟩ := t5.keep Dd _ hD nfp
          refine ⟨a1, fun q => nF (a2 q), fun q => ?_, ra.mono (t5.stb s2.re.nf), sb.trans (t5.stb s2.re.nf), t2.trans t5⟩
          rcases t5.new Dd q with z | z
          · exact nfp z
          · rw [hD] at z; cases z
        cases efc : fc env3 with
        | exc x e => rw [efc] at em; cases em
        | bad => rw [efc] at em; cases em
        | ok b env5 =>
          rw [efc] at em
          dsimp only at em
          intro H5 F5 fp5 t5 s5
          cases b with
          | false =>
            rw [if_neg Bool.false_ne_true] at em
            refine iteF ?_
            obtain ⟨k1, k2, k3, k4, k5, k6⟩ := keepD (t24.trans t5)
            obtain ⟨fp6, re6, hm6⟩ := s5.re.drop ix
            rw [w4] at re6
            exact ⟨dropE ix env5, F5, fp6, accV, accD, ys, ⟨re6, s5.fo⟩, k5, k6.less hm6, k1, k2, fun q => k3 (hm6 Dd q), k4, by omega, em, ea, fun i h o => dropE_get h o⟩
          | true =>
            rw [if_pos rfl] at em
            refine iteT ⟨env5, F5, fp5, s5, ?_⟩
            cases efe : fe env5 with
            | exc x e => rw [efe] at em; cases em
            | bad => rw [efe] at em; cases em
            | ok y env6 =>
              rw [efe] at em
              dsimp only at em
              intro H6 F6 fp6 t6 s6 v rv
              obtain ⟨k1, k2, k3, k4, k5, k6⟩ := keepD ((t24.trans t5).trans t6)
              cases ecm : compM tg ix fc fe (items.drop (i + 1)) (dropE ix env6) with
              | exc x e => rw [ecm] at em; cases em
              | bad => rw [ecm] at em; cases em
              | ok ys7 env7 =>
                rw [ecm] at em
                cases em
                refine ⟨accV, k1, ?_, ?_⟩
                · rw [ra.length]
                  have := wk.len
                  omega
                · obtain ⟨u1, u2, u3⟩ := own_write (ob := .lst (accV ++ [v])) s6 k3 k2 ⟨_, k1⟩
                  obtain ⟨fp8, re8, hm8⟩ := u2.re.drop ix
                  rw [w4] at re8
                  refine ⟨dropE ix env6, F6, fp8, accV ++ [v], accD ++ [y], ys7, ⟨re8, u2.fo⟩, k5.trans u3, ?_, upd_same, k2, fun q => k3 (hm8 Dd q), (k4.mono u3).append (.cons (rv.mono u3) .nil), by rw [List.length_append]; simp; omega, ecm, by rw [List.append_assoc]; exact ea, fun i h o => dropE_get h o⟩
                  refine ⟨fun a u e n => ?_, k6.froz, fun a q => k6.new a (hm8 a q)⟩
                  obtain ⟨e1, f1⟩ := k6.keep a u e n
                  have na : a ≠ Dd := fun z => by rw [z, nD] at e; cases e
                  exact ⟨by rw [upd_ne na]; exact e1, f1⟩
    · have e : i = items.length := by omega
      subst e
      refine .inl ⟨wk.stop H2 F2 sb _ (Nat.le_refl _), ?_⟩
      rw [List.drop_length] at em
      unfold compM at em
      cases em
      rw [List.append_nil] at ea
      subst ea
      refine h1 H2 F2 fp2 (.ref Dd) [Dd] ⟨fun a u e n => t2.keep a u e n, t2.froz, fun a q => ?_⟩ ⟨s2.re.unwipe hdrop, s2.fo⟩ (.lst hD nF ra) fun a q => by rw [List.mem_singleton.mp q]; exact nfp
      rcases List.mem_append.mp q with q | q
      · rw [List.mem_singleton.mp q]; exact .inr nD
      · exact t2.new a q
theorem po_comp {elt t iter : Expr} {ifs : List Expr} {scope : Scope} {own : List (Str × Nat)} {fi : En → Rs (List D)} {tg : Tg} {fc : En → Rs Bool} {fe : En → Rs D} (hc : X.calm = true) (hN : X.N.Nodup) (hi : PI X t iter (tI (gx X) W fi)) (ok : BlkOk X.N X.env.scope scope own)
    (hg : ∀ (s : Shared) (H : Hp) (C : Addr) (cl : List (Str × Addr)) (fp : List Addr), PG (X.blk s H scope (compEnvC scope cl C X.env) fp) t (tG (gx X) B0 (own.map (·.2)) tg))
    (ht : ∀ (s : Shared) (H : Hp) (C : Addr) (cl : List (Str × Addr)) (fp : List Addr), PTs (X.blk s H scope (compEnvC scope cl C X.env) fp) ifs (tT (gx X) W0 fc))
    (he : ∀ (s : Shared) (H : Hp) (C : Addr) (cl : List (Str × Addr)) (fp : List Addr), PE (X.blk s H scope (compEnvC scope cl C X.env) fp) elt (tD (gx X) W0 fe)) (hs : ∀ x, foldedSetIterable iter X.env x = pure x := by intro _; rfl) :
    PE X (.ListComp elt [⟨t, iter, ifs, 0⟩] scope pos) (tO (gx X) W (oComp fi tg (own.map (·.2)) fc fe)) := PE.imp (pe_lc hc hN hi ok hg ht he hs) fun σ H Q h => lc_read h
theorem psd_setLc {i : Nat} {y : Str} {py spos : Pos} {elt t iter : Expr} {ifs : List Expr} {scope : Scope} {own : List (Str × Nat)} {fi : En → Rs (List D)} {tg : Tg} {fc : En → Rs Bool} {fe : En → Rs D} (hc : X.calm = true) (hN : X.N.Nodup) (hyl : X.env.scope.names.lookup y = some .local) (hb : B.bs[i]? ≠ some true)
    (hsw : swapsWith (.ListComp elt [⟨t, iter, ifs, 0⟩] scope pos) (some (.Name y py)) spos.line X.env = pure true) (hi : PI X t iter (tI (gx X) W fi)) (ok : BlkOk X.N X.env.scope scope own)
    (hg : ∀ (s : Shared) (H : Hp) (C : Addr) (cl : List (Str × Addr)) (fp : List Addr), PG (X.blk s H scope (compEnvC scope cl C X.env) fp) t (tG (gx X) B0 (own.map (·.2)) tg))
    (ht : ∀ (s : Shared) (H : Hp) (C : Addr) (cl : List (Str × Addr)) (fp : List Addr), PTs (X.blk s H scope (compEnvC scope cl C X.env) fp) ifs (tT (gx X) W0 fc))
    (he : ∀ (s : Shared) (H : Hp) (C : Addr) (cl : List (Str × Addr)) (fp : List Addr), PE (X.blk s H scope (compEnvC scope cl C X.env) fp) elt (tD (gx X) W0 fe)) (hy : X.N[i]? = some y := by rfl) (hs : ∀ x, foldedSetIterable iter X.env x = pure x := by intro _; rfl) :
    PS X (.Assign [.Name y py] (.ListComp elt [⟨t, iter, ifs, 0⟩] scope pos) spos) (tS (gx X) W B (sSet i (oComp fi tg (own.map (·.2)) fc fe))) := PS.imp (ps_setLc hc hN hy hyl hsw hi ok hg ht he hs) fun N σ H ⟨p, env, F, fp, s, h⟩ => by
  refine lc_read (W := W) (Q := fun v H1 => N.nx (σ.set i (some v)) H1) ⟨env, F, fp, s, ?_⟩
  refine OutO.mono (OutS.bindO p h) fun o env1 H1 F1 fp1 v fr t1 s1 r d h1 => ?_
  split at h1
  · rename_i hi
    obtain ⟨fp', re, hm⟩ := put_slot s1.re hi r d
    exact h1 (σ.set i (some v)) H1 F1 fp' (p.set hb) (Tr.refl.less hm) ⟨re, s1.fo⟩
  · exact h1.elim
end
end VH
set_option Elab.async false
set_option linter.all false
set_option maxRecDepth 100000
set_option maxHeartbeats 4000000
namespace VH
open PySem PySem.Spec PyProof.Rows L2

/-! ### what a def of the text is worth -/
def spO (G : Gx) (bs : List Bool) (run : List O → Rs O) : Sp := fun vs H Q E => vs.length = bs.length ∧ ∃ os F fp, os.length = vs.length ∧ REnv G.K H F (vs.map some) (os.map some) fp ∧ Fo H F ∧ match run os with
  | .ok r outs => ∀ v H' F' fr fp', Tr fp H F H' F' (fr ++ fp') → REnv G.K H' F' (vs.map some) outs fp' → Fo H' F' → RO G.K H' F' v r fr → Dj fr fp' → Q v H'
  | .exc x outs => ∀ c o H' F' fp', Tr fp H F H' F' fp' → REnv G.K H' F' (vs.map some) outs fp' → Fo H' F' → RX G H' F' c o x → E c o H'
  | .bad => False
def mask : List Bool → En → En
  | [], _ => []
  | _ :: bs, [] => none :: mask bs []
  | b :: bs, o :: env => (if b = true then o else none) :: mask bs env
def fnRun (bs : List Bool) (tot : Nat) (body : En → Rs Fl) (os : List O) : Rs O := match body (os.map some ++ List.replicate (tot - os.length) none) with
  | .ok (.ret o) env => .ok o (mask bs env)
  | .ok .nx env => .ok (.sh .none) (mask bs env)
  | .ok _ _ => .bad
  | .exc x env => .exc x (mask bs env)
  | .bad => .bad
theorem REnv.nones {K : PySem.W.Frag} {H : Hp} {F : FA} : ∀ (n : Nat), REnv K H F (List.replicate n none) (List.replicate n none) []
  | 0 => .nil
  | n + 1 => .cons (f1 := []) .no (REnv.nones n) fun _ q => nomatch q
theorem REnv.more {K : PySem.W.Frag} {H : Hp} {F : FA} (n : Nat) : ∀ {σ : Sg} {env : En} {fp : List Addr}, REnv K H F σ env fp → REnv K H F (σ ++ List.replicate n none) (env ++ List.replicate n none) fp
  | _, _, _, .nil => REnv.nones n
  | _, _, _, .cons h t d => .cons h (REnv.more n t) d
theorem REnv.mask {K : PySem.W.Frag} {H : Hp} {F : FA} : ∀ {bs : List Bool} {vs : List V} {σ : Sg} {env : En} {fp : List Addr}, REnv K H F σ env fp → Pin bs vs σ → vs.length = bs.length → ∃ fp', REnv K H F (vs.map some) (VH.mask bs env) fp' ∧ ∀ a ∈ fp', a ∈ fp
  | [], [], _, _, _, _, _, _ => ⟨[], .nil, fun _ q => nomatch q⟩
  | [], _ :: _, _, _, _, _, _, h => by cases h
  | _ :: _, [], _, _, _, _, _, h => by cases h
  | b :: bs, v :: vs, _, _, _, .nil, p, h => by
    obtain ⟨fp', r, k⟩ := REnv.mask (bs := bs) (vs := vs) (K := K) (H := H) (F := F) .nil (fun i v e1 e2 => by have := p (i + 1) v e1 e2; simp at this) (by simpa using h)
    exact ⟨[] ++ fp', .cons (f1 := []) .no r (fun _ q => nomatch q), k⟩
  | b :: bs, v :: vs, w :: σ, _, _, .cons (o := o) (f1 := f1) (f2 := f2) rs t d, p, h => by
    obtain ⟨fp', r, k⟩ := REnv.mask (bs := bs) (vs := vs) t (fun i v e1 e2 => by have := p (i + 1) v e1 e2; simpa using this) (by simpa using h)
    cases b with
    | false => exact ⟨[] ++ fp', .cons (f1 := []) .no r (fun _ q => nomatch q), fun a q => List.mem_append_right _ (k a q)⟩
    | true =>
      have e := p 0 v rfl rfl
      have e : w = some v := by simpa using e
      subst e
      refine ⟨f1 ++ fp', .cons rs r fun a q z => d a q (k a z), fun a q => ?_⟩
      rcases List.mem_append.mp q with q | q
      · exact List.mem_append_left _ q
      · exact List.mem_append_right _ (k a q)
section
variable {P : Program} {w : World} {K : PySem.W.Frag} {mg : Str → Option Value} {base : Heap}
theorem pin_start {N : List Str} {bs : List Bool} {vs : List V} : Pin bs vs (L2.start N vs) := fun i v _ e => by
  have hi : i < vs.length := (List.getElem?_eq_some_iff.mp e).1
  unfold L2.start
  rw [List.getElem?_append_left (by simpa using hi), List.getElem?_map, e]
  rfl
/-- THE RULE for a def of the text -/
theorem fnD {x qual : Str} {st : Stmt} {f : Addr} {fd : FuncData} {N ps : List Str} {k tot : Nat} {bs : List Bool} {body : En → Rs Fl} {run : List O → Rs O} (F : Fun K x qual st f fd) (S : FnScope N ps (defScope st)) (hl : ps.length = bs.length) (hN : N.length = tot)
    (hrun : ∀ os, os.length = bs.length → run os ≠ .bad → fnRun bs tot body os = run os)
    (hb : ∀ (cdv : Value) (A : Around) (outer : List Env) (s : Shared) (H : Hp) (vs : List V) (E : XK), Room k (A.deeper (envOfC qual (defScope st) s.heap.objs.size f cdv)) →
      PSs (cxOf (L2.CX P w) P w K mg base N qual (defScope st) f cdv A outer s H E) (defBody st) (tS ⟨K, mg⟩ (fun c d _ H => E c d H) ⟨bs, vs⟩ body)) : FnOk P w K mg base (L2.CX P w) (k + 1) f fd ps (spO ⟨K, mg⟩ bs run) := by
  refine F.okX S (fun vs H Q E h => h.1.trans hl.symm) fun cdv A outer s H vs Q E hr h => ⟨_, hb cdv A outer s H vs E hr, ?_⟩
  obtain ⟨hv, os, F0, fp, ho, re, fo, h⟩ := h
  refine ⟨pin_start, os.map some ++ List.replicate (tot - os.length) none, F0, fp, ⟨?_, fo⟩, ?_⟩
  · unfold L2.start
    rw [hN, ← ho]
    exact re.more _
  · have e := hrun os (ho.trans hv) (fun q => by rw [q] at h; exact h)
    rw [← e] at h
    unfold fnRun at h
    cases eb : body (os.map some ++ List.replicate (tot - os.length) none) with
    | ok fl env =>
      rw [eb] at h
      cases fl with
      | nx =>
        intro σ' H' F' fp' p t s'
        obtain ⟨fp2, r2, k2⟩ := s'.re.mask p hv
        exact h .non H' F' [] fp2 (t.less fun a q => k2 a (by simpa using q)) r2 s'.fo (.sh .non) fun _ q => nomatch q
      | ret o =>
        intro σ' H' F' fp' v fr p t s' r d
        obtain ⟨fp2, r2, k2⟩ := s'.re.mask p hv
        exact h v H' F' fr fp2 (t.less fun a q => (List.mem_append.mp q).elim (fun q => List.mem_append_left _ q) fun q => List.mem_append_right _ (k2 a q)) r2 s'.fo r fun a q z => d a q (k2 a z)
      | brk => exact h.elim
      | cnt => exact h.elim
    | exc x env =>
      rw [eb] at h
      intro σ' H' F' fp' c o p t s' rx
      obtain ⟨fp2, r2, k2⟩ := s'.re.mask p hv
      exact h c o H' F' fp2 (t.less k2) r2 s'.fo rx
    | bad => rw [eb] at h; exact h.elim
/-- a def that stands in the module -/
structure FnG (P : Program) (w : World) (K : PySem.W.Frag) (mg : Str → Option Value) (base : Heap) (k : Nat) (x : Str) (bs : List Bool) (run : List O → Rs O) : Prop where
  ex : ∃ f fd ps, FnOk P w K mg base (L2.CX P w) k f fd ps (spO ⟨K, mg⟩ bs run) ∧ mg x = some (.ref f) ∧ PySem.W.keepIn K (.ref f) = true ∧ Binds K fd ps []
end
/-! ### calls -/
abbrev Ar := Sum O Nat
def aNil : En → Rs (List Ar) := fun env₀ => (ret []) env₀
def aVal (f : En → Rs D) (g : En → Rs (List Ar)) : En → Rs (List Ar) := fun env₀ => (bnd f fun d => bnd g fun as => ret (.inl (.sh d) :: as)) env₀
def aBor (i : Nat) (g : En → Rs (List Ar)) : En → Rs (List Ar) := fun env => match env[i]? with
  | some (some _) => bnd g (fun as => ret (.inr i :: as)) env
  | _ => .bad
def takeA : List Ar → En → Option (List O × En)
  | [], env => some ([], env)
  | .inl o :: r, env => match takeA r env with
    | some (os, e) => some (o :: os, e)
    | none => none
  | .inr i :: r, env => match env[i]? with
    | some (some o) => match takeA r (env.set i none) with
      | some (os, e) => some (o :: os, e)
      | none => none
    | _ => none
def putA : List Ar → En → En → En
  | .inr i :: r, o :: os, env => putA r os (env.set i o)
  | .inl _ :: r, _ :: os, env => putA r os env
  | _, _, env => env
def eCallU (run : List O → Rs O) (fa : En → Rs (List Ar)) : En → Rs O := fun env₀ => (bnd fa fun as env => match takeA as env with
  | none => .bad
  | some (os, env1) => match run os with
    | .ok r outs => .ok r (putA as outs env1)
    | .exc x outs => .exc x (putA as outs env1)
    | .bad => .bad) env₀
inductive AR (K : PySem.W.Frag) (H : Hp) (F : FA) (σ : Sg) : List V → List Ar → Prop
  | nil : AR K H F σ [] []
  | val {v : V} {o : O} {vs : List V} {as : List Ar} : RO K H F v o [] → AR K H F σ vs as → AR K H F σ (v :: vs) (.inl o :: as)
  | bor {v : V} {i : Nat} {vs : List V} {as : List Ar} : σ[i]? = some (some v) → AR K H F σ vs as → AR K H F σ (v :: vs) (.inr i :: as)
def tArg (G : Gx) (W : WX) (f : En → Rs (List Ar)) : TA := fun σ H Q => ∃ env F fp, Sta G.K H F σ env fp ∧ Out G W σ fp H F (f env) fun as _ H' F' _ => ∀ vs, AR G.K H' F' σ vs as → Q vs H'
theorem AR.length {K : PySem.W.Frag} {H : Hp} {F : FA} {σ : Sg} : ∀ {vs : List V} {as : List Ar}, AR K H F σ vs as → vs.length = as.length
  | _, _, .nil => rfl
  | _, _, .val _ t => by rw [List.length_cons, List.length_cons, AR.length t]
  | _, _, .bor _ t => by rw [List.length_cons, List.length_cons, AR.length t]
theorem takeA_len : ∀ {as : List Ar} {env env1 : En} {os : List O}, takeA as env = some (os, env1) → os.length = as.length
  | [], _, _, _, e => by cases e; rfl
  | .inl o :: r, env, env1, os, e => by
    unfold takeA at e
    split at e
    · rename_i q; cases e; rw [List.length_cons, List.length_cons, takeA_len q]
    · cases e
  | .inr i :: r, env, env1, os, e => by
    unfold takeA at e
    split at e
    · split at e
      · rename_i q; cases e; rw [List.length_cons, List.length_cons, takeA_len q]
      · cases e
    · cases e
theorem take_args {K : PySem.W.Frag} {H : Hp} {F : FA} {σ : Sg} : ∀ {as : List Ar} {vs : List V} {env env1 : En} {os : List O} {fp : List Addr}, REnv K H F σ env fp → AR K H F σ vs as → takeA as env = some (os, env1) →
    ∃ fa fr, REnv K H F (vs.map some) (os.map some) fa ∧ REnv K H F σ env1 fr ∧ Dj fa fr ∧ ∀ a, a ∈ fp ↔ a ∈ fa ∨ a ∈ fr
  | [], _, env, env1, os, fp, re, .nil, e => by cases e; exact ⟨[], fp, .nil, re, (fun _ q => nomatch q), fun a => by simp⟩
  | .inl o :: r, _, env, env1, os, fp, re, .val h t, e => by
    unfold takeA at e
    split at e
    · rename_i q
      cases e
      obtain ⟨fa, fr, r1, r2, d, m⟩ := take_args re t q
      exact ⟨[] ++ fa, fr, .cons (f1 := []) (.yes h) r1 (fun _ q => nomatch q), r2, d, m⟩
    · cases e
  | .inr i :: r, _, env, env1, os, fp, re, .bor (v := v0) h t, e => by
    unfold takeA at e
    split at e
    · rename_i o he
      split at e
      · rename_i q
        cases e
        obtain ⟨v, f1, fp', e1, ro, re', hm, hd⟩ := take_slot re he
        rw [h] at e1
        cases e1
        obtain ⟨fa, fr, r1, r2, d, m⟩ := take_args re' t q
        refine ⟨f1 ++ fa, fr, .cons (.yes ro) r1 (fun a q z => hd a q ((m a).mpr (.inl z))), r2, fun a q z => ?_, fun a => ?_⟩
        · rcases List.mem_append.mp q with q | q
          · exact hd a q ((m a).mpr (.inr z))
          · exact d a q z
        · rw [hm a, m a, List.mem_append, or_assoc]
      · cases e
    · cases e
theorem put_args {K : PySem.W.Frag} {H : Hp} {F : FA} {σ : Sg} : ∀ {as : List Ar} {vs : List V} {env : En} {outs : En} {fa fr : List Addr} {H0 : Hp} {F0 : FA}, REnv K H F σ env fr → AR K H0 F0 σ vs as → REnv K H F (vs.map some) outs fa → Dj fa fr →
    ∃ fp', REnv K H F σ (putA as outs env) fp' ∧ ∀ a ∈ fp', a ∈ fa ∨ a ∈ fr
  | [], _, env, outs, fa, fr, _, _, re, .nil, ro, d => ⟨fr, by unfold putA; exact re, fun a q => .inr q⟩
  | .inl o :: r, _, env, outs, fa, fr, _, _, re, .val h t, ro, d => by
    cases ro with
    | @cons _ o2 _ env2 g1 g2 rs rt dj =>
      obtain ⟨fp', r1, m⟩ := put_args re t rt fun a q z => d a (List.mem_append_right _ q) z
      exact ⟨fp', by unfold putA; exact r1, fun a q => (m a q).imp (fun z => List.mem_append_right _ z) id⟩
  | .inr i :: r, _, env, outs, fa, fr, _, _, re, .bor (v := v) h t, ro, d => by
    cases ro with
    | @cons _ o2 _ env2 g1 g2 rs rt dj =>
      have hi : i < env.length := by rw [← re.length]; exact (List.getElem?_eq_some_iff.mp h).1
      obtain ⟨v0, o0, f1, f2, e1, e2, rs0, hm, hd, hk⟩ := re.split i hi
      obtain ⟨fp1, re1, hm1⟩ := hk H F (some v) o2 g1 .refl (fun _ _ => ⟨rfl, id⟩) rs fun a q z => d a (List.mem_append_left _ q) ((hm a).mpr (.inr z))
      rw [set_get h] at re1
      obtain ⟨fp', r1, m⟩ := put_args re1 t rt fun a q z => by
        rcases (hm1 a).mp z with z | z
        · exact dj a z q
        · exact d a (List.mem_append_right _ q) ((hm a).mpr (.inr z))
      refine ⟨fp', by unfold putA; exact r1, fun a q => ?_⟩
      rcases m a q with z | z
      · exact .inl (List.mem_append_right _ z)
      · rcases (hm1 a).mp z with z | z
        · exact .inl (List.mem_append_left _ z)
        · exact .inr ((hm a).mpr (.inr z))
section
variable {X : Cx} {W : WX} {B : Bx} {e : Expr} {es : List Expr} {pos : Pos}
theorem paa_nil : PA X [] (tArg (gx X) W aNil) := PA.imp pa_nil fun σ H Q ⟨env, F, fp, st, h⟩ => h H F fp .refl st _ .nil
theorem AR.mono {K : PySem.W.Frag} {H H' : Hp} {F F' : FA} {σ : Sg} (s : Stb H F H' F') : ∀ {vs : List V} {as : List Ar}, AR K H F σ vs as → AR K H' F' σ vs as
  | _, _, .nil => .nil
  | _, _, .val h t => .val (h.mono s fun _ q => nomatch q) (AR.mono s t)
  | _, _, .bor h t => .bor h (AR.mono s t)
theorem paa_val {f : En → Rs D} {g : En → Rs (List Ar)} (ha : PE X e (tD (gx X) W f)) (hr : PA X es (tArg (gx X) W g)) (hs : starEach (e :: es) X.env = (false, eval e X.env) :: starEach es X.env := by rfl) : PA X (e :: es) (tArg (gx X) W (aVal f g)) := PA.imp (pa_cons ha hr hs) fun σ H Q h => by
  obtain ⟨env, F, fp, st, h⟩ := h
  refine ⟨env, F, fp, st, Out.mono h.bind fun d env1 H1 F1 fp1 t1 s1 h1 v r => ?_⟩
  refine ⟨env1, F1, fp1, s1, Out.mono h1.bind fun ds env2 H2 F2 fp2 t2 s2 h2 vs rs => ?_⟩
  exact h2 H2 F2 fp2 .refl s2 _ (.val (.sh (r.tr s1.re t2)) rs)
theorem paa_bor (i : Nat) {g : En → Rs (List Ar)} {x : Str} {p : Pos} (hr : PA X es (tArg (gx X) W g)) (hN : X.N[i]? = some x := by rfl) (hv : Vis X.env.scope x := by first | exact Or.inl rfl | exact Or.inr (Or.inl rfl) | exact Or.inr (Or.inr rfl)) (hd : (x == ("__debug__" : Str)) = false := by decide)
    (hcd : (x == ("__classdict__" : Str)) = false := by decide) (hs : starEach (.Name x p :: es) X.env = (false, eval (.Name x p) X.env) :: starEach es X.env := by rfl) : PA X (.Name x p :: es) (tArg (gx X) W (aBor i g)) := PA.imp (pa_cons (pe_var hN hv hd hcd) hr hs) fun σ H Q ⟨env, F, fp, st, h⟩ => by
  unfold aBor at h
  split at h
  · rename_i o he
    obtain ⟨v, f1, fr, e1, r, hm, hd, hk⟩ := pv_of st.re he
    refine ⟨v, e1, env, F, fp, st, Out.mono h.bind fun as env2 H2 F2 fp2 t2 s2 h2 vs rs => ?_⟩
    exact h2 H2 F2 fp2 .refl s2 _ (.bor e1 rs)
  · exact h.elim
theorem call_read {bs : List Bool} {run : List O → Rs O} {fa : En → Rs (List Ar)} {σ : Sg} {H : Hp} {Q : VK} (hn : ∀ vs as K H F σ, AR K H F σ vs as → True) (h : tO (gx X) W (eCallU run fa) σ H Q) (hl : ∀ env as env', fa env = .ok as env' → as.length = bs.length) :
    tArg (gx X) W fa σ H fun vs H1 => spO (gx X) bs run (vs ++ []) H1 Q (WE W σ) := by
  obtain ⟨env, F, fp, st, h⟩ := h
  refine ⟨env, F, fp, st, ?_⟩
  have hb := OutO.bind h
  cases ef : fa env with
  | exc x env1 => rw [ef] at hb; exact hb
  | bad => rw [ef] at hb; exact hb
  | ok as env1 =>
    rw [ef] at hb
    intro H1 F1 fp1 t1 s1 vs ar
    have h1 := hb H1 F1 fp1 t1 s1
    dsimp only at h1
    rw [List.append_nil]
    cases et : takeA as env1 with
    | none => rw [et] at h1; exact h1.elim
    | some pr =>
      obtain ⟨os, env2⟩ := pr
      rw [et] at h1
      dsimp only at h1
      obtain ⟨fa', fr, r1, r2, d, m⟩ := take_args s1.re ar et
      refine ⟨ar.length.trans (hl env as env1 ef), os, F1, fa', by rw [takeA_len et, ar.length], r1, s1.fo, ?_⟩
      have stay : ∀ {H' F' g}, Tr fa' H1 F1 H' F' g → REnv X.K H' F' σ env2 fr := fun {H' F' g} t => r2.mono (t.stb fun a q => (r1.trk a q).2) fun a q => by
        obtain ⟨⟨u, eu⟩, nf⟩ := r2.trk a q
        obtain ⟨k1, k2⟩ := t.keep a u eu fun z => d a z q
        exact ⟨k1.trans eu.symm, k2⟩
      have apart : ∀ {H' F' g}, Tr fa' H1 F1 H' F' g → Dj g fr := fun {H' F' g} t a q z => by
        rcases t.new a q with w | w
        · exact d a w z
        · obtain ⟨⟨u, eu⟩, _⟩ := r2.trk a z
          rw [w] at eu; cases eu
      cases er : run os with
      | ok r outs =>
        rw [er] at h1
        intro v H' F' frr fp' t ro fo rr dj
        have dfr := apart t
        obtain ⟨fp2, r3, m3⟩ := put_args (stay t) ar ro fun a q => dfr a (List.mem_append_right _ q)
        refine h1 H' F' fp2 v frr ⟨fun a u e n => t.keep a u e fun q => n ((m a).mpr (.inl q)), t.froz, fun a q => ?_⟩ ⟨r3, fo⟩ rr fun a q z => ?_
        · rcases List.mem_append.mp q with q | q
          · exact (t.new a (List.mem_append_left _ q)).imp (fun z => (m a).mpr (.inl z)) id
          · rcases m3 a q with q | q
            · exact (t.new a (List.mem_append_right _ q)).imp (fun z => (m a).mpr (.inl z)) id
            · exact .inl ((m a).mpr (.inr q))
        · rcases m3 a z with z | z
          · exact dj a q z
          · exact dfr a (List.mem_append_left _ q) z
      | exc x outs =>
        rw [er] at h1
        intro c o H' F' fp' t ro fo rx
        obtain ⟨fp2, r3, m3⟩ := put_args (stay t) ar ro (apart t)
        refine h1 H' F' fp2 c o ⟨fun a u e n => t.keep a u e fun q => n ((m a).mpr (.inl q)), t.froz, fun a q => ?_⟩ ⟨r3, fo⟩ rx
        rcases m3 a q with q | q
        · exact (t.new a q).imp (fun z => (m a).mpr (.inl z)) id
        · exact .inl ((m a).mpr (.inr q))
      | bad => rw [er] at h1; exact h1.elim
/-- f(..), a def of the text -/
theorem po_call {k : Nat} {x : Str} {bs : List Bool} {run : List O → Rs O} {fa : En → Rs (List Ar)} {p : Pos} (G : FnG X.prog X.w X.K X.mg X.base k x bs run) (hr : Room k X.A) (hg : Gl X x) (tk : Takes X W) (ha : PA X (e :: es) (tArg (gx X) W fa)) (hl : ∀ env as env', fa env = .ok as env' → as.length = bs.length)
    (hdb : (x == ("__debug__" : Str)) = false := by decide) (he : starEach (e :: es) X.env = (false, eval e X.env) :: starEach es X.env := by rfl) (hpl : (backTo pos (starEach es X.env)).any (·.1) = false := by rfl) :
    PE X (.Call (.Name x p) (e :: es) [] pos) (tO (gx X) W (eCallU run fa)) := by
  obtain ⟨f, fd, ps, F, hm, hk, hb⟩ := G.ex
  exact PE.imp (pe_callSD (E := WE W) F hr hg hm hk hb .nil (fun σ => passAt tk σ) ha hdb he hpl) fun σ H Q h => call_read (fun _ _ _ _ _ _ _ => trivial) h hl
theorem aLen_nil : ∀ env as env', aNil env = .ok as env' → as.length = 0 := fun env as env' e => by cases e; rfl
theorem aLen_val {f : En → Rs D} {g : En → Rs (List Ar)} {n : Nat} (h : ∀ env as env', g env = .ok as env' → as.length = n) : ∀ env as env', aVal f g env = .ok as env' → as.length = n + 1 := fun env as env' e => by
  unfold aVal bnd at e
  cases e1 : f env with
  | ok d env1 =>
    rw [e1] at e
    dsimp only at e
    cases e2 : g env1 with
    | ok as2 env2 => rw [e2] at e; cases e; rw [List.length_cons, h _ _ _ e2]
    | exc x env2 => rw [e2] at e; cases e
    | bad => rw [e2] at e; cases e
  | exc x env1 => rw [e1] at e; cases e
  | bad => rw [e1] at e; cases e
theorem aLen_bor {i : Nat} {g : En → Rs (List Ar)} {n : Nat} (h : ∀ env as env', g env = .ok as env' → as.length = n) : ∀ env as env', aBor i g env = .ok as env' → as.length = n + 1 := fun env as env' e => by
  unfold aBor at e
  split at e
  · unfold bnd at e
    cases e2 : g env with
    | ok as2 env2 => rw [e2] at e; cases e; rw [List.length_cons, h _ _ _ e2]
    | exc x env2 => rw [e2] at e; cases e
    | bad => rw [e2] at e; cases e
  · cases e
/-! ### append, extend -/
def sApp (i : Nat) (fe : En → Rs D) : En → Rs Fl := fun env => match env[i]? with
  | some (some (.lst _)) => bnd fe (fun d env => match env[i]? with
    | some (some (.lst ds)) => if ds.length < sizeLine then .ok .nx (env.set i (some (.lst (ds ++ [d])))) else .bad
    | _ => .bad) env
  | _ => .bad
def sExt (i : Nat) (fe : En → Rs D) : En → Rs Fl := fun env => match env[i]? with
  | some (some (.lst _)) => bnd fe (fun d env => match env[i]?, d with
    | some (some (.lst ds)), .list es => if ds.length + es.length ≤ sizeLine then .ok .nx (env.set i (some (.lst (ds ++ es)))) else .bad
    | _, _ => .bad) env
  | _ => .bad
/-- the list in slot i is another one -/
theorem lst_write {K : PySem.W.Frag} {H : Hp} {F : FA} {σ : Sg} {env : En} {fp : List Addr} {i : Nat} {ds es : List D} (s : Sta K H F σ env fp) (he : env[i]? = some (some (.lst ds))) :
    ∃ a xs, σ[i]? = some (some (.ref a)) ∧ H a = some (.lst xs) ∧ RepA K H F xs ds ∧ ∀ ys, RepA K H F ys es → ∃ fp', Tr fp H F (upd H a (.lst ys)) F fp' ∧ Sta K (upd H a (.lst ys)) F σ (env.set i (some (.lst es))) fp' := by
  obtain ⟨v, f1, fp3, e1, r, re3, hm, hd⟩ := take_slot s.re he
  cases r with
  | @lst a xs _ ha hf q =>
    refine ⟨a, xs, e1, ha, q, fun ys qy => ?_⟩
    have na3 : a ∉ fp3 := hd a List.mem_cons_self
    obtain ⟨z1, z2, z3⟩ := own_write (ob := .lst ys) ⟨re3, s.fo⟩ na3 hf ⟨_, ha⟩
    have hi : i < env.length := (List.getElem?_eq_some_iff.mp he).1
    obtain ⟨fp5, re5, hm5⟩ := put_slot (i := i) z2.re (by rw [List.length_set]; exact hi) (RO.lst upd_same hf (qy.mono z3)) fun b zb zb' => na3 (by rw [← List.mem_singleton.mp zb]; exact zb')
    rw [set_get e1, List.set_set] at re5
    refine ⟨fp5, ⟨fun b u e n => z1.keep b u e fun zz => n ((hm b).mpr (List.mem_append.mp zz)), fun _ h => h, fun b zb => .inl ((hm b).mpr (List.mem_append.mp (hm5 b zb)))⟩, ⟨re5, z2.fo⟩⟩
theorem psd_app (i : Nat) {x : Str} {p apos cpos : Pos} {fe : En → Rs D} (he : PE X e (tD (gx X) W fe)) (hN : X.N[i]? = some x := by rfl) (hv : Vis X.env.scope x := by first | exact Or.inl rfl | exact Or.inr (Or.inl rfl) | exact Or.inr (Or.inr rfl)) (hd : (x == ("__debug__" : Str)) = false := by decide)
    (hcd : (x == ("__classdict__" : Str)) = false := by decide) (hst : starEach [e] X.env = (false, eval e X.env) :: starEach [] X.env := by rfl)
    (hbase : attributeBase (.Name x p) "append" X.env (eval (.Name x p) X.env) = eval (.Name x p) X.env := by rfl) (hline : (apos.endLine == cpos.line) = true := by rfl)
    (hfew : ((backTo cpos (starEach [e] X.env)).all (fun x => !x.1) && (backToKw cpos (keywordEach [] X.env)).all (fun x => x.1.isSome) && decide (([e] : List Expr).length + ([] : List Keyword).length + (if ([] : List Keyword).isEmpty then 0 else 1) < 30)) = true := by rfl)
    (hs : swapsWith (.Call (.Attribute (.Name x p) "append" apos) [e] [] cpos) none pos.line X.env = pure false := by rfl) : PS X (.Expr (.Call (.Attribute (.Name x p) "append" apos) [e] [] cpos) pos) (tS (gx X) W B (sApp i fe)) :=
  PS.imp (ps_expr (pe_bm PySem.F.plainAttrs_list PySem.F.slot_list_append PySem.F.type_list_append mt_append (pe_var hN hv hd hcd) (pa_cons he pa_nil hst) hbase hfew hline hst) hs) fun N σ H ⟨p, env, F, fp, s, h⟩ => by
    unfold sApp at h
    split at h
    · rename_i ds0 he0
      obtain ⟨a, xs, e1, ha, _, _⟩ := lst_write (es := []) s he0
      refine ⟨_, e1, .inl ⟨rfl, _, SqL.of ha⟩, env, F, fp, s, Out.mono (OutS.bind p h) fun d env1 H1 F1 fp1 t1 s1 h1 v r => ?_⟩
      split at h1
      · rename_i ds he1
        split at h1
        · rename_i hl
          obtain ⟨a', xs', e1', ha', q, k⟩ := lst_write (es := ds ++ [d]) s1 he1
          rw [e1] at e1'; cases e1'
          obtain ⟨fp', t', s'⟩ := k (xs' ++ [v]) (q.append (.cons r .nil))
          exact ⟨a, xs', v, rfl, rfl, ha', by rw [q.length]; exact hl, h1 σ _ F1 fp' p t' s'⟩
        · exact h1.elim
      · exact h1.elim
    · exact h.elim
theorem psd_ext (i : Nat) {x : Str} {p apos cpos : Pos} {fe : En → Rs D} (he : PE X e (tD (gx X) W fe)) (hN : X.N[i]? = some x := by rfl) (hv : Vis X.env.scope x := by first | exact Or.inl rfl | exact Or.inr (Or.inl rfl) | exact Or.inr (Or.inr rfl)) (hd : (x == ("__debug__" : Str)) = false := by decide)
    (hcd : (x == ("__classdict__" : Str)) = false := by decide) (hst : starEach [e] X.env = (false, eval e X.env) :: starEach [] X.env := by rfl)
    (hbase : attributeBase (.Name x p) "extend" X.env (eval (.Name x p) X.env) = eval (.Name x p) X.env := by rfl) (hline : (apos.endLine == cpos.line) = true := by rfl)
    (hfew : ((backTo cpos (starEach [e] X.env)).all (fun x => !x.1) && (backToKw cpos (keywordEach [] X.env)).all (fun x => x.1.isSome) && decide (([e] : List Expr).length + ([] : List Keyword).length + (if ([] : List Keyword).isEmpty then 0 else 1) < 30)) = true := by rfl)
    (hs : swapsWith (.Call (.Attribute (.Name x p) "extend" apos) [e] [] cpos) none pos.line X.env = pure false := by rfl) : PS X (.Expr (.Call (.Attribute (.Name x p) "extend" apos) [e] [] cpos) pos) (tS (gx X) W B (sExt i fe)) :=
  PS.imp (ps_expr (pe_bm PySem.F.plainAttrs_list PySem.F.slot_list_extend PySem.F.type_list_extend mt_extend (pe_var hN hv hd hcd) (pa_cons he pa_nil hst) hbase hfew hline hst) hs) fun N σ H ⟨p, env, F, fp, s, h⟩ => by
    unfold sExt at h
    split at h
    · rename_i ds0 he0
      obtain ⟨a, xs, e1, ha, _, _⟩ := lst_write (es := []) s he0
      refine ⟨_, e1, .inl ⟨rfl, _, SqL.of ha⟩, env, F, fp, s, Out.mono (OutS.bind p h) fun d env1 H1 F1 fp1 t1 s1 h1 v r => ?_⟩
      split at h1
      · rename_i ds es he1
        split at h1
        · rename_i hl
          obtain ⟨a', xs', e1', ha', q, k⟩ := lst_write (es := ds ++ es) s1 he1
          rw [e1] at e1'; cases e1'
          cases r with
          | lst fl q2 =>
            obtain ⟨fp', t', s'⟩ := k (xs' ++ _) (q.append q2)
            exact ⟨a, _, xs', _, rfl, rfl, ha', fl.2, by rw [q.length, q2.length]; exact hl, h1 σ _ F1 fp' p t' s'⟩
        · exact h1.elim
      · exact h1.elim
    · exact h.elim
end
end VH
set_option Elab.async false
set_option linter.all false
set_option maxRecDepth 100000
set_option maxHeartbeats 4000000
namespace VH
open PySem PySem.Spec PyProof.Rows L2

/-! ### more tests -/
def truD : D → Option Bool
  | .none => some false
  | .bool b => some b
  | .int i => some (i != 0)
  | .str y => if y.length ≤ sizeLine then some ((y.length : Int) != 0) else none
  | .list xs => some (!xs.isEmpty)
  | .tuple xs => some (!xs.isEmpty)
  | .dict xs => some (!xs.isEmpty)
def eTru (f : En → Rs D) : En → Rs Bool := fun env₀ => (bnd f fun d => lift (truD d)) env₀
section
variable {X : Cx} {W : WX} {B : Bx} {e a b : Expr} {f g : En → Rs D} {pos : Pos}
def eNN (f : En → Rs D) : En → Rs Bool := fun env₀ => (bnd f fun d => ret (isN d)) env₀
def eNNo (f : En → Rs D) : En → Rs Bool := fun env₀ => (bnd f fun d => ret (!isN d)) env₀
theorem ptd_isN {j pos'} (h : PE X a (tD (gx X) W f)) : PT X (.Compare a [.Is] [.Constant .none j pos'] pos) (tT (gx X) W (eNN f)) := PT.imp (pt_cmp (pc_isN h) rfl) fun σ H Q ⟨env, F, fp, st, h⟩ =>
  ⟨env, F, fp, st, Out.mono h.bind fun d env1 H1 F1 fp1 t1 s1 h1 v r => ⟨decide (v = .non), rfl, by rw [r.isN]; exact h1 H1 F1 fp1 .refl s1⟩⟩
theorem ptd_notN {j pos'} (h : PE X a (tD (gx X) W f)) : PT X (.Compare a [.IsNot] [.Constant .none j pos'] pos) (tT (gx X) W (eNNo f)) := PT.imp (pt_cmp (pc_notN h) rfl) fun σ H Q ⟨env, F, fp, st, h⟩ =>
  ⟨env, F, fp, st, Out.mono h.bind fun d env1 H1 F1 fp1 t1 s1 h1 v r => ⟨!decide (v = .non), rfl, by rw [r.isN]; exact h1 H1 F1 fp1 .refl s1⟩⟩
theorem tru_any : TruR X (fun x H Q => ∃ F d k, Rep X.K H F x d ∧ truD d = some k ∧ Q k H) := by
  intro pins s σ H x v Q I rx ⟨F, d, k, r, ed, q⟩
  unfold truD at ed
  split at ed
  · cases ed; cases r; exact tru_ok pins s σ H _ v Q I rx ⟨_, rfl, q⟩
  · cases ed; cases r; exact tru_ok pins s σ H _ v Q I rx ⟨_, rfl, q⟩
  · cases ed; cases r; exact tru_ok pins s σ H _ v Q I rx ⟨_, rfl, q⟩
  · split at ed
    · rename_i hz
      cases ed; cases r; exact tru_ok pins s σ H _ v Q I rx ⟨_, And.intro hz rfl, q⟩
    · cases ed
  · cases ed
    cases r with
    | lst fl ra =>
      refine tru_ok pins s σ H _ v Q I rx ⟨_, .inl ⟨_, fl.sq, rfl⟩, ?_⟩
      have : ∀ {vs : List V} {ds : List D}, RepA X.K H F vs ds → vs.isEmpty = ds.isEmpty := fun h => by cases h <;> rfl
      rw [this ra]; exact q
  · cases ed
    cases r with
    | tup fl ra =>
      refine tru_ok pins s σ H _ v Q I rx ⟨_, .inr (.inl ⟨_, fl.sq, rfl⟩), ?_⟩
      have : ∀ {vs : List V} {ds : List D}, RepA X.K H F vs ds → vs.isEmpty = ds.isEmpty := fun h => by cases h <;> rfl
      rw [this ra]; exact q
  · cases ed
    cases r with
    | dic fk ra =>
      cases rx
      refine d_truth I fk.2 fun s' I' => ⟨H, I', ?_⟩
      have : ∀ {vs : List (Key × V)} {ds : List (D × D)}, RepK X.K H F vs ds → vs.isEmpty = ds.isEmpty := fun h => by cases h <;> rfl
      rw [this ra]; exact q
theorem ptd_tru (h : PE X e (tD (gx X) W f)) (he : ∀ whole, isTrue e X.env whole = (do let v ← whole; standAt e.pos; holding [v] (truthy v)) := by intro _; rfl) : PT X e (tT (gx X) W (eTru f)) := by
  refine ⟨fun pins s σ H Q I ⟨env, F, fp, st, hw⟩ => ?_⟩
  have hw' : tD (gx X) W f σ H fun x H1 => ∃ F1 d k, Rep X.K H1 F1 x d ∧ truD d = some k ∧ Q k H1 := ⟨env, F, fp, st, Out.mono hw.bind fun d env1 H1 F1 fp1 t1 s1 h1 v r => by
    obtain ⟨k, ek, h2⟩ := h1.lift
    exact ⟨F1, d, k, r, ek, h2 H1 F1 fp1 .refl s1⟩⟩
  refine isTrue_plain (thn (h.run pins s σ H _ I hw') fun v s1 ⟨x, H1, I1, r1, q1⟩ => ?_) (he _)
  exact tru_any pins s1 σ H1 x v Q I1 r1 q1
/-! ### in, not in -/
def flatD : D → Bool
  | .none => true | .bool _ => true | .int _ => true | .str _ => true
  | _ => false
def eqF : D → D → Bool
  | .none, .none => true
  | .bool a, .bool b => a == b
  | .bool a, .int b => (if a then 1 else 0) == b
  | .int a, .bool b => a == (if b then 1 else 0)
  | .int a, .int b => a == b
  | .str a, .str b => a == b
  | _, _ => false
theorem Rep.flat {K : PySem.W.Frag} {H : Hp} {F : FA} {v : V} {d : D} (r : Rep K H F v d) : flatD d = true → flatV v = true := by cases r <;> intro h <;> first | rfl | cases h
theorem Rep.eqF {K : PySem.W.Frag} {H : Hp} {F : FA} {v u : V} {d e : D} (r : Rep K H F v d) (q : Rep K H F u e) (h1 : flatD d = true) (h2 : flatD e = true) : eqV v u = VH.eqF d e := by
  cases r <;> cases q <;> first | rfl | cases h1 | cases h2
theorem RepA.flat {K : PySem.W.Frag} {H : Hp} {F : FA} : ∀ {v : List V} {d : List D}, RepA K H F v d → d.all flatD = true → v.all flatV = true
  | _, _, .nil, _ => rfl
  | _, _, .cons h t, q => by
    rw [List.all_cons, Bool.and_eq_true] at q ⊢
    exact ⟨h.flat q.1, RepA.flat t q.2⟩
theorem RepA.inV {K : PySem.W.Frag} {H : Hp} {F : FA} {x : V} {c : D} (rx : Rep K H F x c) (hc : flatD c = true) : ∀ {v : List V} {d : List D}, RepA K H F v d → d.all flatD = true → L2.inV x v = d.any fun y => VH.eqF y c
  | _, _, .nil, _ => rfl
  | _, _, .cons h t, q => by
    rw [List.all_cons, Bool.and_eq_true] at q
    unfold L2.inV at *
    rw [List.any_cons, List.any_cons, h.eqF rx q.1 hc]
    congr 1
    exact RepA.inV rx hc t q.2
def inB (x : D) : D → Option Bool
  | .list ds => if flatD x = true ∧ ds.all flatD = true then some (ds.any fun y => eqF y x) else none
  | .tuple ds => if flatD x = true ∧ ds.all flatD = true then some (ds.any fun y => eqF y x) else none
  | .dict kvs => (keyOf x).map fun k => (lookK kvs k).isSome
  | .str z => match x with
    | .str y => if y.cps.size = 1 then some (decide (y.cps.getD 0 0 ∈ z.cps.toList)) else none
    | _ => none
  | _ => none
def inOp (x c : D) : Option D := (inB x c).map .bool
def ninOp (x c : D) : Option D := (inB x c).map fun b => .bool (!b)
theorem one_sign {y : Str} (h : y.cps.size = 1) : y = ⟨#[y.cps.getD 0 0]⟩ := by
  obtain ⟨cps⟩ := y
  obtain ⟨l⟩ := cps
  cases l with
  | nil => simp at h
  | cons c r => cases r with
    | nil => rfl
    | cons _ _ => simp at h
theorem od_inG (hu : X.A.units + 1 < cLine) {o : CmpOp} {n : Bool} (h1 : OpR X (compareOp o) (rIn X.K n))
    (h2 : ∀ {pins : List (Addr × Obj)} {σ : Sg} {H : Hp} {s : Shared} {a : Addr} {y : V} {u : Value} {op : Option V} {Q : Value → Shared → Prop}, Inv X pins σ H s → DGet H a y op → RelV y u → (∀ s', Inv X pins σ H s' → Q (.bool (if n then !op.isSome else op.isSome)) s') → wpAny (model X.prog X.w) X.A (compareOp o u (.ref a)) Q X.xe s)
    (h3 : OpR X (compareOp o) (fun x y H Q => ∃ (c : Nat) (z : Str), x = .str ⟨#[c]⟩ ∧ y = .str z ∧ Q (.bl (if n then !decide (c ∈ z.cps.toList) else decide (c ∈ z.cps.toList))) H)) :
    OpD X (compareOp o) (fun x c => (inB x c).map fun b => .bool (if n then !b else b)) := fun pins s σ H F x y v u d1 d2 d Q I rv ru r1 r2 e g => by
  obtain ⟨b, e', rfl⟩ := Option.map_eq_some_iff.mp e
  unfold inB at e'
  split at e'
  · split at e'
    · rename_i hf
      cases e'
      cases r2 with
      | lst fl ra => exact h1 pins s σ H x _ v u Q I rv ru ⟨_, _, rfl, .inl fl.sq, r1.flat hf.1, ra.flat hf.2, by rw [ra.inV r1 hf.1 hf.2]; exact g.bl⟩
    · cases e'
  · split at e'
    · rename_i hf
      cases e'
      cases r2 with
      | tup fl ra => exact h1 pins s σ H x _ v u Q I rv ru ⟨_, _, rfl, .inr fl.sq, r1.flat hf.1, ra.flat hf.2, by rw [ra.inV r1 hf.1 hf.2]; exact g.bl⟩
    · cases e'
  · rename_i kvs
    obtain ⟨k, ek, rfl⟩ := Option.map_eq_some_iff.mp e'
    cases r2 with
    | @dic a vs _ fk rk =>
      cases ru
      refine h2 I (.inl ⟨_, k, fk.2, r1.key ek, rfl⟩) rv fun s' I' => ⟨.bl _, H, I', rfl, ?_⟩
      obtain ⟨l1, l2⟩ := rk.look (k := k)
      have : (lookK kvs k).isSome = (valV vs k).isSome := by
        cases q : lookK kvs k with
        | none => rw [l2 q]; rfl
        | some z => obtain ⟨w, ew, _⟩ := l1 z q; rw [ew]; rfl
      rw [← this]
      exact g.bl
  · split at e'
    · split at e'
      · rename_i hz
        cases e'
        cases r1
        cases r2
        exact h3 pins s σ H _ _ v u Q I rv ru ⟨_, _, congrArg V.str (one_sign hz), rfl, g.bl⟩
      · cases e'
    · cases e'
  · cases e'
theorem od_in (hu : X.A.units + 1 < cLine) : OpD X (compareOp .In) inOp := od_inG (n := false) hu op_in_seq (fun I g r k => d_in hu I g r k) op_in_sign
theorem od_notIn (hu : X.A.units + 1 < cLine) : OpD X (compareOp .NotIn) ninOp := od_inG (n := true) hu op_notIn_seq (fun I g r k => d_notIn hu I g r k) op_notIn_sign
/-! ### the script -/
def eScr (i : Nat) : En → Rs (List D) := fun env => match env[i]? with
  | some (some (.scr ns)) => .ok (ns.map .int) env
  | _ => .bad
theorem repA_ints {K : PySem.W.Frag} {H : Hp} {F : FA} : ∀ ns : List Int, RepA K H F (ns.map V.int) (ns.map .int)
  | [] => .nil
  | n :: ns => .cons (.int n) (repA_ints ns)
theorem pid_scr (i : Nat) {x : Str} {p : Pos} {tg : Expr} (hN : X.N[i]? = some x := by rfl) (hv : Vis X.env.scope x := by first | exact Or.inl rfl | exact Or.inr (Or.inl rfl) | exact Or.inr (Or.inr rfl)) (hd : (x == ("__debug__" : Str)) = false := by decide)
    (hcd : (x == ("__classdict__" : Str)) = false := by decide) : PI X tg (.Name x p) (tI (gx X) W (eScr i)) := by
  have hp := pi_list (tg := tg) (pe_var (X := X) (pos := p) hN hv hd hcd)
  refine ⟨fun pins s σ H R I ⟨env, F, fp, st, h⟩ => ?_⟩
  unfold eScr at h
  split at h
  · rename_i ns he
    obtain ⟨v, f1, fr, e1, r, hm, hd', hk⟩ := pv_of st.re he
    cases r with
    | @scr a _ q =>
      have sq : ∀ {H2 F2}, Stb H F H2 F2 → SqL X.K H2 a (ns.map V.int) := fun {H2 F2} sb => by
        rcases q with ⟨f, q⟩ | q
        · exact .inl (sb.rd _ _ f q)
        · rcases q with (q | ⟨_, q⟩) | q
          · cases q
          · cases q
          · exact .inr q
      obtain ⟨its, rv, pl, hz⟩ := I.list (sq .refl)
      refine hp.run pins s σ H R I ⟨_, e1, a, rfl, ⟨_, sq .refl⟩, h H F fp .refl st _ ⟨?_, fun H2 F2 sb i d e => ?_, fun H2 F2 sb i hl => ?_⟩⟩
      · simpa using hz
      · obtain ⟨v, ev, r⟩ := (repA_ints (K := X.K) (H := H2) (F := F2) ns).get e
        refine ⟨⟨_, v, sq sb, ev⟩, fun x H' ⟨eH, y⟩ => ?_⟩
        subst eH
        have z := y _ (sq sb)
        rw [ev] at z; cases z
        exact ⟨F2, .refl, r⟩
      · exact ⟨_, sq sb, by simpa using hl⟩
  · exact h.elim
end
/-! ### isinstance by names -/
def vi_int : D → Bool
  | .bool _ => true
  | .int _ => true
  | _ => false
theorem vis_int : ∀ d : D, kitB (tyD d) "int" = some (vi_int d)
  | .none => (by decide +kernel : kitB "NoneType" "int" = some false)
  | .bool _ => (by decide +kernel : kitB "bool" "int" = some true)
  | .int _ => (by decide +kernel : kitB "int" "int" = some true)
  | .str _ => (by decide +kernel : kitB "str" "int" = some false)
  | .list _ => (by decide +kernel : kitB "list" "int" = some false)
  | .tuple _ => (by decide +kernel : kitB "tuple" "int" = some false)
  | .dict _ => (by decide +kernel : kitB "dict" "int" = some false)
def vi_bool : D → Bool
  | .bool _ => true
  | _ => false
theorem vis_bool : ∀ d : D, kitB (tyD d) "bool" = some (vi_bool d)
  | .none => (by decide +kernel : kitB "NoneType" "bool" = some false)
  | .bool _ => (by decide +kernel : kitB "bool" "bool" = some true)
  | .int _ => (by decide +kernel : kitB "int" "bool" = some false)
  | .str _ => (by decide +kernel : kitB "str" "bool" = some false)
  | .list _ => (by decide +kernel : kitB "list" "bool" = some false)
  | .tuple _ => (by decide +kernel : kitB "tuple" "bool" = some false)
  | .dict _ => (by decide +kernel : kitB "dict" "bool" = some false)
def vi_str : D → Bool
  | .str _ => true
  | _ => false
theorem vis_str : ∀ d : D, kitB (tyD d) "str" = some (vi_str d)
  | .none => (by decide +kernel : kitB "NoneType" "str" = some false)
  | .bool _ => (by decide +kernel : kitB "bool" "str" = some false)
  | .int _ => (by decide +kernel : kitB "int" "str" = some false)
  | .str _ => (by decide +kernel : kitB "str" "str" = some true)
  | .list _ => (by decide +kernel : kitB "list" "str" = some false)
  | .tuple _ => (by decide +kernel : kitB "tuple" "str" = some false)
  | .dict _ => (by decide +kernel : kitB "dict" "str" = some false)
def vi_tuple : D → Bool
  | .tuple _ => true
  | _ => false
theorem vis_tuple : ∀ d : D, kitB (tyD d) "tuple" = some (vi_tuple d)
  | .none => (by decide +kernel : kitB "NoneType" "tuple" = some false)
  | .bool _ => (by decide +kernel : kitB "bool" "tuple" = some false)
  | .int _ => (by decide +kernel : kitB "int" "tuple" = some false)
  | .str _ => (by decide +kernel : kitB "str" "tuple" = some false)
  | .list _ => (by decide +kernel : kitB "list" "tuple" = some false)
  | .tuple _ => (by decide +kernel : kitB "tuple" "tuple" = some true)
  | .dict _ => (by decide +kernel : kitB "dict" "tuple" = some false)
def vi_list : D → Bool
  | .list _ => true
  | _ => false
theorem vis_list : ∀ d : D, kitB (tyD d) "list" = some (vi_list d)
  | .none => (by decide +kernel : kitB "NoneType" "list" = some false)
  | .bool _ => (by decide +kernel : kitB "bool" "list" = some false)
  | .int _ => (by decide +kernel : kitB "int" "list" = some false)
  | .str _ => (by decide +kernel : kitB "str" "list" = some false)
  | .list _ => (by decide +kernel : kitB "list" "list" = some true)
  | .tuple _ => (by decide +kernel : kitB "tuple" "list" = some false)
  | .dict _ => (by decide +kernel : kitB "dict" "list" = some false)
def vi_dict : D → Bool
  | .dict _ => true
  | _ => false
theorem vis_dict : ∀ d : D, kitB (tyD d) "dict" = some (vi_dict d)
  | .none => (by decide +kernel : kitB "NoneType" "dict" = some false)
  | .bool _ => (by decide +kernel : kitB "bool" "dict" = some false)
  | .int _ => (by decide +kernel : kitB "int" "dict" = some false)
  | .str _ => (by decide +kernel : kitB "str" "dict" = some false)
  | .list _ => (by decide +kernel : kitB "list" "dict" = some false)
  | .tuple _ => (by decide +kernel : kitB "tuple" "dict" = some false)
  | .dict _ => (by decide +kernel : kitB "dict" "dict" = some true)
/-! ### the law -/
theorem law_sp {K : PySem.W.Frag} {mg : Str → Option Value} {run : List O → Rs O} {H : Hp} {a : Addr} {ns : List Int} {outs : En} (hS : SqL K H a (ns.map V.int)) (h : run [.scr ns] = .ok (.sh (.bool true)) [none]) :
    spO ⟨K, mg⟩ [false] run [.ref a] H (fun v _ => v = .bl true) (fun _ _ _ => False) := by
  refine ⟨rfl, [.scr ns], fun b => ∃ u, H b = some u, [], rfl, .cons (f1 := []) (f2 := []) (.yes (.scr ?_)) .nil (fun _ q => nomatch q), fun _ q => q, ?_⟩
  · rcases hS with q | q
    · refine .inl ⟨?_, q⟩
      rcases q with q | ⟨_, q⟩ <;> exact ⟨_, q⟩
    · exact .inr (.inr q)
  · rw [h]
    intro v H' F' fr fp' t re fo ro dj
    cases ro with
    | sh r => cases r; rfl
end VH
set_option Elab.async false
set_option linter.all false
set_option maxRecDepth 100000
set_option maxHeartbeats 4000000
namespace VH
open PySem PySem.Spec PyProof.Rows L2

/-! ### the tape of a law -/
structure Tape where
  cells : List Int
  at_ : Nat
  left : Int
  seed : Int
  salt : Int
abbrev kc : Key := .inr (Str.ofString "cells")
abbrev ka : Key := .inr (Str.ofString "at")
abbrev kl : Key := .inr (Str.ofString "left")
abbrev ks : Key := .inr (Str.ofString "seed")
abbrev kx : Key := .inr (Str.ofString "salt")
def tapeK (c a l s x : O) : List (Key × O) := [(kc, c), (ka, a), (kl, l), (ks, s), (kx, x)]
theorem key_ne {a b : String} (h : decide (Str.ofString a = Str.ofString b) = false) : ¬ (Sum.inr (Str.ofString a) : Key) = Sum.inr (Str.ofString b) := fun q => by
  have := of_decide_eq_false h
  exact this (Sum.inr.inj q)
theorem n_ca : ¬ kc = ka := key_ne (by decide +kernel)
theorem n_cl : ¬ kc = kl := key_ne (by decide +kernel)
theorem n_cs : ¬ kc = ks := key_ne (by decide +kernel)
theorem n_cx : ¬ kc = kx := key_ne (by decide +kernel)
theorem n_al : ¬ ka = kl := key_ne (by decide +kernel)
theorem n_as : ¬ ka = ks := key_ne (by decide +kernel)
theorem n_ax : ¬ ka = kx := key_ne (by decide +kernel)
theorem n_ls : ¬ kl = ks := key_ne (by decide +kernel)
theorem n_lx : ¬ kl = kx := key_ne (by decide +kernel)
theorem n_sx : ¬ ks = kx := key_ne (by decide +kernel)
section
variable {c a l s x v : O}
theorem lk_c : lookO (tapeK c a l s x) kc = some c := by simp only [tapeK, lookO, if_true]
theorem lk_a : lookO (tapeK c a l s x) ka = some a := by simp only [tapeK, lookO, if_true, if_neg n_ca]
theorem lk_l : lookO (tapeK c a l s x) kl = some l := by simp only [tapeK, lookO, if_true, if_neg n_cl, if_neg n_al]
theorem lk_s : lookO (tapeK c a l s x) ks = some s := by simp only [tapeK, lookO, if_true, if_neg n_cs, if_neg n_as, if_neg n_ls]
theorem lk_x : lookO (tapeK c a l s x) kx = some x := by simp only [tapeK, lookO, if_true, if_neg n_cx, if_neg n_ax, if_neg n_lx, if_neg n_sx]
theorem pt_a : putO (tapeK c a l s x) ka v = tapeK c v l s x := by
  unfold putO
  rw [if_pos (by simp [tapeK])]
  simp only [tapeK, List.map_cons, List.map_nil, if_true, if_neg n_ca, if_neg (Ne.symm n_al), if_neg (Ne.symm n_as), if_neg (Ne.symm n_ax)]
theorem pt_l : putO (tapeK c a l s x) kl v = tapeK c a v s x := by
  unfold putO
  rw [if_pos (by simp [tapeK])]
  simp only [tapeK, List.map_cons, List.map_nil, if_true, if_neg n_cl, if_neg n_al, if_neg (Ne.symm n_ls), if_neg (Ne.symm n_lx)]
theorem pt_x : putO (tapeK c a l s x) kx v = tapeK c a l s v := by
  unfold putO
  rw [if_pos (by simp [tapeK])]
  simp only [tapeK, List.map_cons, List.map_nil, if_true, if_neg n_cx, if_neg n_ax, if_neg n_lx, if_neg n_sx]
theorem tk_len : (tapeK c a l s x).length < sizeLine := by show 5 < sizeLine; decide
end
def tapeO (T : Tape) : O := .dic (tapeK (.sh (.list (T.cells.map .int))) (.sh (.int T.at_)) (.sh (.int T.left)) (.sh (.int T.seed)) (.sh (.int T.salt)))
def preT (T : Tape) : Tape := if T.left = 0 ∧ T.at_ < T.cells.length then { T with left := T.cells.getD T.at_ 0, at_ := T.at_ + 1 } else T
def mixT (T : Tape) : Int :=
  let y := (T.seed * 48271 + (T.salt + 1) * 69621) % 2147483647
  (y * y + (T.salt + 1) * 40692 + 12345) % 2147483399
def drawT (T : Tape) (m : Int) : Int × Tape := if 0 < T.left then (T.left % m, { T with left := T.left / m }) else (mixT T % m, { T with salt := T.salt + 1 })
def takeT (T : Tape) (m : Int) : Int × Tape := drawT (preT T) m
theorem takeT_lo (T : Tape) {m : Int} (h : 0 < m) : 0 ≤ (takeT T m).1 := by
  unfold takeT drawT
  split
  · exact Int.emod_nonneg _ (by omega)
  · exact Int.emod_nonneg _ (by omega)
theorem takeT_hi (T : Tape) {m : Int} (h : 0 < m) : (takeT T m).1 < m := by
  unfold takeT drawT
  split
  · exact Int.emod_lt_of_pos _ h
  · exact Int.emod_lt_of_pos _ h
end VH
set_option Elab.async false
set_option linter.all false
set_option maxRecDepth 100000
set_option maxHeartbeats 4000000
namespace VH
open PySem PySem.Spec PyProof.Rows L2
theorem cx_none {P : Program} {w : World} {H : Hp} {s s' : Shared} {e : Value} {o : List Env} (h : L2.CX P w o H s (fun _ _ _ => False) e s') : False := by
  obtain ⟨_, _, _, _, _, _, _, _, _, _, _, _, h⟩ := h
  exact h
theorem law_spG {K : PySem.W.Frag} {mg : Str → Option Value} {run : List O → Rs O} {H : Hp} {a : Addr} {ns : List Int} {outs : En} {Q : VK} {E : XK} (hS : SqL K H a (ns.map V.int)) (h : run [.scr ns] = .ok (.sh (.bool true)) outs) (hQ : ∀ H', Q (.bl true) H') :
    spO ⟨K, mg⟩ [false] run [.ref a] H Q E := by
  refine ⟨rfl, [.scr ns], fun b => ∃ u, H b = some u, [], rfl, .cons (f1 := []) (f2 := []) (.yes (.scr ?_)) .nil (fun _ q => nomatch q), fun _ q => q, ?_⟩
  · rcases hS with q | q
    · refine .inl ⟨?_, q⟩
      rcases q with q | ⟨_, q⟩ <;> exact ⟨_, q⟩
    · exact .inr (.inr q)
  · rw [h]
    intro v H' F' fr fp' t re fo ro dj
    cases ro with
    | sh r => cases r; exact hQ H'
section
variable {P : Program} {w : World} {K : PySem.W.Frag} {mg : Str → Option Value} {base : Heap}
theorem g_bad {x : Str} {st : Stmt} {f : Addr} {fd : FuncData} {N ps : List Str} {k : Nat} {bs : List Bool} (F : Fun K x x st f fd) (S : FnScope N ps (defScope st)) (hl : ps.length = bs.length) (m : mg x = some (.ref f)) (hb : Binds K fd ps []) : FnG P w K mg base (k + 1) x bs (fun _ => .bad) :=
  ⟨f, fd, ps, F.okX S (fun vs H Q E h => h.1.trans hl.symm) (fun cdv A outer s H vs Q E hr h => by
    obtain ⟨_, _, _, _, _, _, _, h⟩ := h
    exact h.elim), m, F.kp, hb⟩
end
end VH
set_option Elab.async false
set_option linter.all false
set_option maxRecDepth 100000
set_option maxHeartbeats 4000000
namespace K86
open PySem PySem.Spec PyProof.Rows L2 VH
def topS (i : Nat) : Stmt := PySem.Challenge.pw_versionhouse_k86_sealed_logs.main.body.getD i (.Pass ⟨0, 0, 0, 0⟩)
abbrev bs_is_integer : List Bool := [false]
abbrev bs_code_of : List Bool := [false]
abbrev bs_to_bytes_of : List Bool := [false, false]
abbrev bs_pack_string : List Bool := [false]
abbrev bs_pack_many : List Bool := [false, false]
abbrev bs_pack : List Bool := [false]
abbrev bs_seal_of : List Bool := [false, false, false, false]
abbrev bs_sealed : List Bool := [false]
abbrev bs_first_break : List Bool := [false]
abbrev bs__law_tape : List Bool := [true]
abbrev bs__law_take : List Bool := [true, false]
abbrev bs__law_is_integer : List Bool := [false]
abbrev bs__law_same_items : List Bool := [false, false]
abbrev bs__law_same : List Bool := [false, false]
abbrev bs__law_char : List Bool := [true]
abbrev bs__law_text : List Bool := [true]
abbrev bs__law_integer : List Bool := [true]
abbrev bs__law_value : List Bool := [true, false, false]
abbrev bs__law_edits : List Bool := [true]
abbrev bs__law_seal : List Bool := [false, false]
abbrev bs__law_break : List Bool := [false]
abbrev bs__law_spoilt : List Bool := [true, false]
abbrev bs_law : List Bool := [false]
structure Tx (K : PySem.W.Frag) (mg : Str → Option Value) : Prop where
  n_abs : mg "abs" = none
  n_bool : mg "bool" = none
  n_enumerate : mg "enumerate" = none
  n_int : mg "int" = none
  n_isinstance : mg "isinstance" = none
  n_len : mg "len" = none
  n_list : mg "list" = none
  n_ord : mg "ord" = none
  n_range : mg "range" = none
  n_str : mg "str" = none
  n_tuple : mg "tuple" = none
  c_FACTOR : ∃ t, mg "FACTOR" = some (.int (257) t)
  c_FIRST : ∃ t, mg "FIRST" = some (.int (17) t)
  c_SIZE : ∃ t, mg "SIZE" = some (.int (999983) t)
section
variable {P : Program} {w : World} {K : PySem.W.Frag} {mg : Str → Option Value} {base : Heap}
/-! ### is_integer -/
abbrev s_is_integer : Stmt := topS 1
abbrev N_is_integer : List Str := ["thing"]
abbrev p_is_integer : List Str := ["thing"]
theorem sc_is_integer : FnScope N_is_integer p_is_integer (defScope s_is_integer) := ⟨rfl, rfl, rfl, by decide +kernel, rfl, by decide +kernel, by decide +kernel⟩
def b_is_integer : En → Rs Fl := sRet (eSh (eAndV (bnd (eVar 0) fun d => ret (.bool (vi_int d))) (eNotV (bnd (eVar 0) fun d => ret (.bool (vi_bool d))))))
theorem d_is_integer {k : Nat} {fa : Addr} {cdv : Value} {A : Around} {outer : List Env} {s : Shared} {H : Hp} {vs : List V} {E : XK} (T : Tx K mg) (hr : Room k (A.deeper (envOfC "is_integer" (defScope s_is_integer) s.heap.objs.size fa cdv))) :
    PSs (cxOf (L2.CX P w) P w K mg base N_is_integer "is_integer" (defScope s_is_integer) fa cdv A outer s H E) (defBody s_is_integer) (tS ⟨K, mg⟩ (fun c d _ H => E c d H) ⟨bs_is_integer, vs⟩ (b_is_integer)) :=
  psd_one (psd_ret (po_sh (pd_and (pd_isi vis_int (by rfl) T.n_isinstance (by decide +kernel) (by rfl) T.n_int (by decide +kernel) (pd_var 0)) (pd_one (pd_not (pd_isi vis_bool (by rfl) T.n_isinstance (by decide +kernel) (by rfl) T.n_bool (by decide +kernel) (pd_var 0)))))))
theorem g_is_integer {k : Nat} {fa : Addr} {fd : FuncData} {run : List O → Rs O} (T : Tx K mg) (F : Fun K "is_integer" "is_integer" s_is_integer fa fd) (m : mg "is_integer" = some (.ref fa))
    (hrun : ∀ os, os.length = 1 → run os ≠ .bad → fnRun bs_is_integer 1 (b_is_integer) os = run os) : FnG P w K mg base (k + 1) "is_integer" bs_is_integer run :=
  ⟨fa, fd, p_is_integer, fnD F sc_is_integer rfl rfl hrun (fun cdv A outer s H vs E hr => d_is_integer T hr), m, F.kp, F.binds fun _ _ _ _ _ _ us hl => match us, hl with | [_], _ => rfl⟩
/-! ### code_of -/
abbrev s_code_of : Stmt := topS 3
abbrev N_code_of : List Str := ["char"]
abbrev p_code_of : List Str := ["char"]
theorem sc_code_of : FnScope N_code_of p_code_of (defScope s_code_of) := ⟨rfl, rfl, rfl, by decide +kernel, rfl, by decide +kernel, by decide +kernel⟩
def b_code_of : En → Rs Fl := sRet (eSh (eAll ordD (eCons (eVar 0) (eNil))))
theorem d_code_of {k : Nat} {fa : Addr} {cdv : Value} {A : Around} {outer : List Env} {s : Shared} {H : Hp} {vs : List V} {E : XK} (T : Tx K mg) (hr : Room k (A.deeper (envOfC "code_of" (defScope s_code_of) s.heap.objs.size fa cdv))) :
    PSs (cxOf (L2.CX P w) P w K mg base N_code_of "code_of" (defScope s_code_of) fa cdv A outer s H E) (defBody s_code_of) (tS ⟨K, mg⟩ (fun c d _ H => E c d H) ⟨bs_code_of, vs⟩ (b_code_of)) :=
  psd_one (psd_ret (po_sh (pd_callB cd_ord (by rfl) T.n_ord (by decide +kernel) (pad_cons (pd_var 0) (pad_nil)))))
theorem g_code_of {k : Nat} {fa : Addr} {fd : FuncData} {run : List O → Rs O} (T : Tx K mg) (F : Fun K "code_of" "code_of" s_code_of fa fd) (m : mg "code_of" = some (.ref fa))
    (hrun : ∀ os, os.length = 1 → run os ≠ .bad → fnRun bs_code_of 1 (b_code_of) os = run os) : FnG P w K mg base (k + 1) "code_of" bs_code_of run :=
  ⟨fa, fd, p_code_of, fnD F sc_code_of rfl rfl hrun (fun cdv A outer s H vs E hr => d_code_of T hr), m, F.kp, F.binds fun _ _ _ _ _ _ us hl => match us, hl with | [_], _ => rfl⟩
/-! ### to_bytes_of -/
abbrev s_to_bytes_of : Stmt := topS 4
abbrev N_to_bytes_of : List Str := ["number", "size", "result", "_"]
abbrev p_to_bytes_of : List Str := ["number", "size"]
theorem sc_to_bytes_of : FnScope N_to_bytes_of p_to_bytes_of (defScope s_to_bytes_of) := ⟨rfl, rfl, rfl, by decide +kernel, rfl, by decide +kernel, by decide +kernel⟩
def b_to_bytes_of : En → Rs Fl := sSeq (sSet 2 (oLst (eNil))) (sSeq (sFor (eRng (eVar 1)) (tgN 3) (sSeq (sApp 2 (eBin andD (eVar 0) (eC (.int 255)))) (sSet 0 (eSh (eBin shrD (eVar 0) (eC (.int 8))))))) (sRet (eSh (eUn revD (eVar 2)))))
theorem d_to_bytes_of {k : Nat} {fa : Addr} {cdv : Value} {A : Around} {outer : List Env} {s : Shared} {H : Hp} {vs : List V} {E : XK} (T : Tx K mg) (hr : Room k (A.deeper (envOfC "to_bytes_of" (defScope s_to_bytes_of) s.heap.objs.size fa cdv))) :
    PSs (cxOf (L2.CX P w) P w K mg base N_to_bytes_of "to_bytes_of" (defScope s_to_bytes_of) fa cdv A outer s H E) (defBody s_to_bytes_of) (tS ⟨K, mg⟩ (fun c d _ H => E c d H) ⟨bs_to_bytes_of, vs⟩ (b_to_bytes_of)) :=
  psd_cons (psd_set (i := 2) sc_to_bytes_of.nd (by first | exact Or.inl rfl | exact Or.inr rfl) (po_lst (pad_nil)) (fun q => nomatch q)) (psd_cons (psd_for (passes_of rfl) rfl (pid_rng (by rfl) T.n_range (pd_var 1)) (pgd_name (i := 3) (ix := [3]) sc_to_bytes_of.nd (by first | exact Or.inl rfl | exact Or.inr rfl) (fun q => nomatch q) (by decide)) (psd_cons (psd_app 2 (pd_bin od_and (pd_var 0) (pd_int))) (psd_one (psd_set (i := 0) sc_to_bytes_of.nd (by first | exact Or.inl rfl | exact Or.inr rfl) (po_sh (pd_bin od_shr (pd_var 0) (pd_int))) (fun q => nomatch q))))) (psd_one (psd_ret (po_sh (pd_rev (pd_var 2))))))
theorem g_to_bytes_of {k : Nat} {fa : Addr} {fd : FuncData} {run : List O → Rs O} (T : Tx K mg) (F : Fun K "to_bytes_of" "to_bytes_of" s_to_bytes_of fa fd) (m : mg "to_bytes_of" = some (.ref fa))
    (hrun : ∀ os, os.length = 2 → run os ≠ .bad → fnRun bs_to_bytes_of 4 (b_to_bytes_of) os = run os) : FnG P w K mg base (k + 1) "to_bytes_of" bs_to_bytes_of run :=
  ⟨fa, fd, p_to_bytes_of, fnD F sc_to_bytes_of rfl rfl hrun (fun cdv A outer s H vs E hr => d_to_bytes_of T hr), m, F.kp, F.binds fun _ _ _ _ _ _ us hl => match us, hl with | [_, _], _ => rfl⟩
/-! ### pack_string -/
abbrev s_pack_string : Stmt := topS 6
abbrev N_pack_string : List Str := ["text", "char"]
abbrev p_pack_string : List Str := ["text"]
theorem sc_pack_string : FnScope N_pack_string p_pack_string (defScope s_pack_string) := ⟨rfl, rfl, rfl, by decide +kernel, rfl, by decide +kernel, by decide +kernel⟩
def b_pack_string (r_to_bytes_of r_code_of : List O → Rs O) : En → Rs Fl := sRet (eSh (eBin addD (eBin addD (eAll lstD (eCons (eC (.int 5)) (eNil))) (eFz (eCallU r_to_bytes_of (aVal (eAll lenD (eCons (eVar 0) (eNil))) (aVal (eC (.int 2)) (aNil)))))) (eFz (oComp (eSeq (eVar 0)) (tgN 1) [1] (ret true) (eFz (eCallU r_code_of (aVal (eVar 1) (aNil))))))))
theorem d_pack_string {k : Nat} {k_to_bytes_of : Nat} {r_to_bytes_of : List O → Rs O} {k_code_of : Nat} {r_code_of : List O → Rs O} {fa : Addr} {cdv : Value} {A : Around} {outer : List Env} {s : Shared} {H : Hp} {vs : List V} {E : XK} (T : Tx K mg) (G_to_bytes_of : FnG P w K mg base k_to_bytes_of "to_bytes_of" bs_to_bytes_of r_to_bytes_of) (h_to_bytes_of : k_to_bytes_of ≤ k) (G_code_of : FnG P w K mg base k_code_of "code_of" bs_code_of r_code_of) (h_code_of : k_code_of ≤ k) (hr : Room k (A.deeper (envOfC "pack_string" (defScope s_pack_string) s.heap.objs.size fa cdv))) :
    PSs (cxOf (L2.CX P w) P w K mg base N_pack_string "pack_string" (defScope s_pack_string) fa cdv A outer s H E) (defBody s_pack_string) (tS ⟨K, mg⟩ (fun c d _ H => E c d H) ⟨bs_pack_string, vs⟩ (b_pack_string r_to_bytes_of r_code_of)) :=
  psd_one (psd_ret (po_sh (pd_bin od_add (pd_bin od_add (pd_lst (pad_cons (pd_int) (pad_nil))) (pd_fz (po_call G_to_bytes_of (hr.mono h_to_bytes_of) (by rfl) (takes_of rfl rfl rfl rfl) (paa_val (pd_callB cd_len (by rfl) T.n_len (by decide +kernel) (pad_cons (pd_var 0) (pad_nil))) (paa_val (pd_int) (paa_nil))) (aLen_val (aLen_val (aLen_nil)))))) (pd_fz (po_comp (own := [("char", 1)]) rfl sc_pack_string.nd (pid_seq (pd_var 0)) (blkOk_by (own := [("char", 1)]) (N := N_pack_string) (sc := defScope s_pack_string) (by decide +kernel)) (fun _ _ _ _ _ => pgd_name (i := 1) (ix := [1]) sc_pack_string.nd (by first | exact Or.inl rfl | exact Or.inr rfl) (fun q => nomatch q) (by decide)) (fun _ _ _ _ _ => ptsd_nil) (fun _ _ _ _ _ => pd_fz (po_call G_code_of (hr.mono h_code_of) (by rfl) takes0 (paa_val (pd_var 1) (paa_nil)) (aLen_val (aLen_nil)))))))))
theorem g_pack_string {k : Nat} {k_to_bytes_of : Nat} {r_to_bytes_of : List O → Rs O} {k_code_of : Nat} {r_code_of : List O → Rs O} {fa : Addr} {fd : FuncData} {run : List O → Rs O} (T : Tx K mg) (G_to_bytes_of : FnG P w K mg base k_to_bytes_of "to_bytes_of" bs_to_bytes_of r_to_bytes_of) (h_to_bytes_of : k_to_bytes_of ≤ k) (G_code_of : FnG P w K mg base k_code_of "code_of" bs_code_of r_code_of) (h_code_of : k_code_of ≤ k) (F : Fun K "pack_string" "pack_string" s_pack_string fa fd) (m : mg "pack_string" = some (.ref fa))
    (hrun : ∀ os, os.length = 1 → run os ≠ .bad → fnRun bs_pack_string 2 (b_pack_string r_to_bytes_of r_code_of) os = run os) : FnG P w K mg base (k + 1) "pack_string" bs_pack_string run :=
  ⟨fa, fd, p_pack_string, fnD F sc_pack_string rfl rfl hrun (fun cdv A outer s H vs E hr => d_pack_string T G_to_bytes_of h_to_bytes_of G_code_of h_code_of hr), m, F.kp, F.binds fun _ _ _ _ _ _ us hl => match us, hl with | [_], _ => rfl⟩
/-! ### pack_many -/
abbrev s_pack_many : Stmt := topS 7
abbrev N_pack_many : List Str := ["tag", "parts", "result", "part"]
abbrev p_pack_many : List Str := ["tag", "parts"]
theorem sc_pack_many : FnScope N_pack_many p_pack_many (defScope s_pack_many) := ⟨rfl, rfl, rfl, by decide +kernel, rfl, by decide +kernel, by decide +kernel⟩
def b_pack_many (r_to_bytes_of : List O → Rs O) : En → Rs Fl := sSeq (sSet 2 (oAdd (eAll lstD (eCons (eVar 0) (eNil))) (eFz (eCallU r_to_bytes_of (aVal (eAll lenD (eCons (eVar 1) (eNil))) (aVal (eC (.int 2)) (aNil))))))) (sSeq (sFor (eSeq (eVar 1)) (tgN 3) (sExt 2 (eVar 3))) (sRet (eSh (eVar 2))))
theorem d_pack_many {k : Nat} {k_to_bytes_of : Nat} {r_to_bytes_of : List O → Rs O} {fa : Addr} {cdv : Value} {A : Around} {outer : List Env} {s : Shared} {H : Hp} {vs : List V} {E : XK} (T : Tx K mg) (G_to_bytes_of : FnG P w K mg base k_to_bytes_of "to_bytes_of" bs_to_bytes_of r_to_bytes_of) (h_to_bytes_of : k_to_bytes_of ≤ k) (hr : Room k (A.deeper (envOfC "pack_many" (defScope s_pack_many) s.heap.objs.size fa cdv))) :
    PSs (cxOf (L2.CX P w) P w K mg base N_pack_many "pack_many" (defScope s_pack_many) fa cdv A outer s H E) (defBody s_pack_many) (tS ⟨K, mg⟩ (fun c d _ H => E c d H) ⟨bs_pack_many, vs⟩ (b_pack_many r_to_bytes_of)) :=
  psd_cons (psd_set (i := 2) sc_pack_many.nd (by first | exact Or.inl rfl | exact Or.inr rfl) (po_add (pd_lst (pad_cons (pd_var 0) (pad_nil))) (pd_fz (po_call G_to_bytes_of (hr.mono h_to_bytes_of) (by rfl) (takes_of rfl rfl rfl rfl) (paa_val (pd_callB cd_len (by rfl) T.n_len (by decide +kernel) (pad_cons (pd_var 1) (pad_nil))) (paa_val (pd_int) (paa_nil))) (aLen_val (aLen_val (aLen_nil)))))) (fun q => nomatch q)) (psd_cons (psd_for (passes_of rfl) rfl (pid_seq (pd_var 1)) (pgd_name (i := 3) (ix := [3]) sc_pack_many.nd (by first | exact Or.inl rfl | exact Or.inr rfl) (fun q => nomatch q) (by decide)) (psd_one (psd_ext 2 (pd_var 3)))) (psd_one (psd_ret (po_sh (pd_var 2)))))
theorem g_pack_many {k : Nat} {k_to_bytes_of : Nat} {r_to_bytes_of : List O → Rs O} {fa : Addr} {fd : FuncData} {run : List O → Rs O} (T : Tx K mg) (G_to_bytes_of : FnG P w K mg base k_to_bytes_of "to_bytes_of" bs_to_bytes_of r_to_bytes_of) (h_to_bytes_of : k_to_bytes_of ≤ k) (F : Fun K "pack_many" "pack_many" s_pack_many fa fd) (m : mg "pack_many" = some (.ref fa))
    (hrun : ∀ os, os.length = 2 → run os ≠ .bad → fnRun bs_pack_many 4 (b_pack_many r_to_bytes_of) os = run os) : FnG P w K mg base (k + 1) "pack_many" bs_pack_many run :=
  ⟨fa, fd, p_pack_many, fnD F sc_pack_many rfl rfl hrun (fun cdv A outer s H vs E hr => d_pack_many T G_to_bytes_of h_to_bytes_of hr), m, F.kp, F.binds fun _ _ _ _ _ _ us hl => match us, hl with | [_, _], _ => rfl⟩
/-! ### pack -/
abbrev s_pack : Stmt := topS 8
abbrev N_pack : List Str := ["data", "item", "entries", "key"]
abbrev p_pack : List Str := ["data"]
theorem sc_pack : FnScope N_pack p_pack (defScope s_pack) := ⟨rfl, rfl, rfl, by decide +kernel, rfl, by decide +kernel, by decide +kernel⟩
def b_pack (r_to_bytes_of r_pack_string r_pack_many r_pack : List O → Rs O) : En → Rs Fl := sSeq (sIf (eNN (eVar 0)) (sRet (eSh (eAll lstD (eCons (eC (.int 0)) (eNil))))) (sNext)) (sSeq (sIf (eB (bnd (eVar 0) fun d => ret (.bool (vi_bool d)))) (sRet (eSh (eAll lstD (eCons (eIf (eTru (eVar 0)) (eC (.int 2)) (eC (.int 1))) (eNil))))) (sNext)) (sSeq (sIf (eB (bnd (eVar 0) fun d => ret (.bool (vi_int d)))) (sSeq (sIf (eB (eBin ltD (eVar 0) (eC (.int 0)))) (sRet (eSh (eBin addD (eAll lstD (eCons (eC (.int 4)) (eNil))) (eFz (eCallU r_to_bytes_of (aVal (eUn negD (eVar 0)) (aVal (eC (.int 4)) (aNil)))))))) (sNext)) (sRet (eSh (eBin addD (eAll lstD (eCons (eC (.int 3)) (eNil))) (eFz (eCallU r_to_bytes_of (aVal (eVar 0) (aVal (eC (.int 4)) (aNil))))))))) (sNext)) (sSeq (sIf (eB (bnd (eVar 0) fun d => ret (.bool (vi_str d)))) (sRet (eSh (eFz (eCallU r_pack_string (aVal (eVar 0) (aNil)))))) (sNext)) (sSeq (sIf (eB (bnd (eVar 0) fun d => ret (.bool (vi_tuple d)))) (sRet (eSh (eFz (eCallU r_pack_many (aVal (eC (.int 6)) (aVal (eFz (oComp (eSeq (eVar 0)) (tgN 1) [1] (ret true) (eFz (eCallU r_pack (aVal (eVar 1) (aNil)))))) (aNil))))))) (sNext)) (sSeq (sIf (eB (bnd (eVar 0) fun d => ret (.bool (vi_list d)))) (sRet (eSh (eFz (eCallU r_pack_many (aVal (eC (.int 7)) (aVal (eFz (oComp (eSeq (eVar 0)) (tgN 1) [1] (ret true) (eFz (eCallU r_pack (aVal (eVar 1) (aNil)))))) (aNil))))))) (sNext)) (sNever))))))
theorem d_pack {k : Nat} {k_to_bytes_of : Nat} {r_to_bytes_of : List O → Rs O} {k_pack_string : Nat} {r_pack_string : List O → Rs O} {k_pack_many : Nat} {r_pack_many : List O → Rs O} {k_pack : Nat} {r_pack : List O → Rs O} {fa : Addr} {cdv : Value} {A : Around} {outer : List Env} {s : Shared} {H : Hp} {vs : List V} {E : XK} (T : Tx K mg) (G_to_bytes_of : FnG P w K mg base k_to_bytes_of "to_bytes_of" bs_to_bytes_of r_to_bytes_of) (h_to_bytes_of : k_to_bytes_of ≤ k) (G_pack_string : FnG P w K mg base k_pack_string "pack_string" bs_pack_string r_pack_string) (h_pack_string : k_pack_string ≤ k) (G_pack_many : FnG P w K mg base k_pack_many "pack_many" bs_pack_many r_pack_many) (h_pack_many : k_pack_many ≤ k) (G_pack : FnG P w K mg base k_pack "pack" bs_pack r_pack) (h_pack : k_pack ≤ k) (hr : Room k (A.deeper (envOfC "pack" (defScope s_pack) s.heap.objs.size fa cdv))) :
    PSs (cxOf (L2.CX P w) P w K mg base N_pack "pack" (defScope s_pack) fa cdv A outer s H E) (defBody s_pack) (tS ⟨K, mg⟩ (fun c d _ H => E c d H) ⟨bs_pack, vs⟩ (b_pack r_to_bytes_of r_pack_string r_pack_many r_pack)) :=
  psd_cons (psd_if (ptd_isN (pd_var 0)) (psd_one (psd_ret (po_sh (pd_lst (pad_cons (pd_int) (pad_nil)))))) (psd_nil)) (psd_cons (psd_if (ptd_val (pd_isi vis_bool (by rfl) T.n_isinstance (by decide +kernel) (by rfl) T.n_bool (by decide +kernel) (pd_var 0))) (psd_one (psd_ret (po_sh (pd_lst (pad_cons (pd_if (ptd_tru (pd_var 0)) (pd_int) (pd_int)) (pad_nil)))))) (psd_nil)) (psd_cons (psd_if (ptd_val (pd_isi vis_int (by rfl) T.n_isinstance (by decide +kernel) (by rfl) T.n_int (by decide +kernel) (pd_var 0))) (psd_cons (psd_if (ptd_cmp od_lt (pd_var 0) (pd_int) (nomark _)) (psd_one (psd_ret (po_sh (pd_bin od_add (pd_lst (pad_cons (pd_int) (pad_nil))) (pd_fz (po_call G_to_bytes_of (hr.mono h_to_bytes_of) (by rfl) (takes_of rfl rfl rfl rfl) (paa_val (pd_un ud_neg (pd_var 0)) (paa_val (pd_int) (paa_nil))) (aLen_val (aLen_val (aLen_nil))))))))) (psd_nil)) (psd_one (psd_ret (po_sh (pd_bin od_add (pd_lst (pad_cons (pd_int) (pad_nil))) (pd_fz (po_call G_to_bytes_of (hr.mono h_to_bytes_of) (by rfl) (takes_of rfl rfl rfl rfl) (paa_val (pd_var 0) (paa_val (pd_int) (paa_nil))) (aLen_val (aLen_val (aLen_nil)))))))))) (psd_nil)) (psd_cons (psd_if (ptd_val (pd_isi vis_str (by rfl) T.n_isinstance (by decide +kernel) (by rfl) T.n_str (by decide +kernel) (pd_var 0))) (psd_one (psd_ret (po_sh (pd_fz (po_call G_pack_string (hr.mono h_pack_string) (by rfl) (takes_of rfl rfl rfl rfl) (paa_val (pd_var 0) (paa_nil)) (aLen_val (aLen_nil))))))) (psd_nil)) (psd_cons (psd_if (ptd_val (pd_isi vis_tuple (by rfl) T.n_isinstance (by decide +kernel) (by rfl) T.n_tuple (by decide +kernel) (pd_var 0))) (psd_one (psd_ret (po_sh (pd_fz (po_call G_pack_many (hr.mono h_pack_many) (by rfl) (takes_of rfl rfl rfl rfl) (paa_val (pd_int) (paa_val (pd_fz (po_comp (own := [("item", 1)]) rfl sc_pack.nd (pid_seq (pd_var 0)) (blkOk_by (own := [("item", 1)]) (N := N_pack) (sc := defScope s_pack) (by decide +kernel)) (fun _ _ _ _ _ => pgd_name (i := 1) (ix := [1]) sc_pack.nd (by first | exact Or.inl rfl | exact Or.inr rfl) (fun q => nomatch q) (by decide)) (fun _ _ _ _ _ => ptsd_nil) (fun _ _ _ _ _ => pd_fz (po_call G_pack (hr.mono h_pack) (by rfl) takes0 (paa_val (pd_var 1) (paa_nil)) (aLen_val (aLen_nil)))))) (paa_nil))) (aLen_val (aLen_val (aLen_nil)))))))) (psd_nil)) (psd_cons (psd_if (ptd_val (pd_isi vis_list (by rfl) T.n_isinstance (by decide +kernel) (by rfl) T.n_list (by decide +kernel) (pd_var 0))) (psd_one (psd_ret (po_sh (pd_fz (po_call G_pack_many (hr.mono h_pack_many) (by rfl) (takes_of rfl rfl rfl rfl) (paa_val (pd_int) (paa_val (pd_fz (po_comp (own := [("item", 1)]) rfl sc_pack.nd (pid_seq (pd_var 0)) (blkOk_by (own := [("item", 1)]) (N := N_pack) (sc := defScope s_pack) (by decide +kernel)) (fun _ _ _ _ _ => pgd_name (i := 1) (ix := [1]) sc_pack.nd (by first | exact Or.inl rfl | exact Or.inr rfl) (fun q => nomatch q) (by decide)) (fun _ _ _ _ _ => ptsd_nil) (fun _ _ _ _ _ => pd_fz (po_call G_pack (hr.mono h_pack) (by rfl) takes0 (paa_val (pd_var 1) (paa_nil)) (aLen_val (aLen_nil)))))) (paa_nil))) (aLen_val (aLen_val (aLen_nil)))))))) (psd_nil)) (pssd_never))))))
theorem g_pack {k : Nat} {k_to_bytes_of : Nat} {r_to_bytes_of : List O → Rs O} {k_pack_string : Nat} {r_pack_string : List O → Rs O} {k_pack_many : Nat} {r_pack_many : List O → Rs O} {k_pack : Nat} {r_pack : List O → Rs O} {fa : Addr} {fd : FuncData} {run : List O → Rs O} (T : Tx K mg) (G_to_bytes_of : FnG P w K mg base k_to_bytes_of "to_bytes_of" bs_to_bytes_of r_to_bytes_of) (h_to_bytes_of : k_to_bytes_of ≤ k) (G_pack_string : FnG P w K mg base k_pack_string "pack_string" bs_pack_string r_pack_string) (h_pack_string : k_pack_string ≤ k) (G_pack_many : FnG P w K mg base k_pack_many "pack_many" bs_pack_many r_pack_many) (h_pack_many : k_pack_many ≤ k) (G_pack : FnG P w K mg base k_pack "pack" bs_pack r_pack) (h_pack : k_pack ≤ k) (F : Fun K "pack" "pack" s_pack fa fd) (m : mg "pack" = some (.ref fa))
    (hrun : ∀ os, os.length = 1 → run os ≠ .bad → fnRun bs_pack 4 (b_pack r_to_bytes_of r_pack_string r_pack_many r_pack) os = run os) : FnG P w K mg base (k + 1) "pack" bs_pack run :=
  ⟨fa, fd, p_pack, fnD F sc_pack rfl rfl hrun (fun cdv A outer s H vs E hr => d_pack T G_to_bytes_of h_to_bytes_of G_pack_string h_pack_string G_pack_many h_pack_many G_pack h_pack hr), m, F.kp, F.binds fun _ _ _ _ _ _ us hl => match us, hl with | [_], _ => rfl⟩
/-! ### seal_of -/
abbrev s_seal_of : Stmt := topS 13
abbrev N_seal_of : List Str := ["before", "number", "version", "edits", "byte"]
abbrev p_seal_of : List Str := ["before", "number", "version", "edits"]
theorem sc_seal_of : FnScope N_seal_of p_seal_of (defScope s_seal_of) := ⟨rfl, rfl, rfl, by decide +kernel, rfl, by decide +kernel, by decide +kernel⟩
def b_seal_of (r_pack : List O → Rs O) : En → Rs Fl := sSeq (sFor (eSeq (eFz (eCallU r_pack (aVal (eAll tupD (eCons (eVar 1) (eCons (eVar 2) (eCons (eVar 3) (eNil))))) (aNil))))) (tgN 4) (sSet 0 (eSh (eBin modD (eBin addD (eBin mulD (eC (.int (257))) (eVar 0)) (eVar 4)) (eC (.int (999983))))))) (sRet (eSh (eVar 0)))
theorem d_seal_of {k : Nat} {k_pack : Nat} {r_pack : List O → Rs O} {fa : Addr} {cdv : Value} {A : Around} {outer : List Env} {s : Shared} {H : Hp} {vs : List V} {E : XK} (T : Tx K mg) (G_pack : FnG P w K mg base k_pack "pack" bs_pack r_pack) (h_pack : k_pack ≤ k) (hr : Room k (A.deeper (envOfC "seal_of" (defScope s_seal_of) s.heap.objs.size fa cdv))) :
    PSs (cxOf (L2.CX P w) P w K mg base N_seal_of "seal_of" (defScope s_seal_of) fa cdv A outer s H E) (defBody s_seal_of) (tS ⟨K, mg⟩ (fun c d _ H => E c d H) ⟨bs_seal_of, vs⟩ (b_seal_of r_pack)) :=
  psd_cons (psd_for (passes_of rfl) rfl (pid_seq (pd_fz (po_call G_pack (hr.mono h_pack) (by rfl) (takes_of rfl rfl rfl rfl) (paa_val (pd_tup (pad_cons (pd_var 1) (pad_cons (pd_var 2) (pad_cons (pd_var 3) (pad_nil))))) (paa_nil)) (aLen_val (aLen_nil))))) (pgd_name (i := 4) (ix := [4]) sc_seal_of.nd (by first | exact Or.inl rfl | exact Or.inr rfl) (fun q => nomatch q) (by decide)) (psd_one (psd_set (i := 0) sc_seal_of.nd (by first | exact Or.inl rfl | exact Or.inr rfl) (po_sh (pd_bin od_mod (pd_bin od_add (pd_bin od_mul (pd_gint (by rfl) T.c_FACTOR) (pd_var 0)) (pd_var 4)) (pd_gint (by rfl) T.c_SIZE))) (fun q => nomatch q)))) (psd_one (psd_ret (po_sh (pd_var 0))))
theorem g_seal_of {k : Nat} {k_pack : Nat} {r_pack : List O → Rs O} {fa : Addr} {fd : FuncData} {run : List O → Rs O} (T : Tx K mg) (G_pack : FnG P w K mg base k_pack "pack" bs_pack r_pack) (h_pack : k_pack ≤ k) (F : Fun K "seal_of" "seal_of" s_seal_of fa fd) (m : mg "seal_of" = some (.ref fa))
    (hrun : ∀ os, os.length = 4 → run os ≠ .bad → fnRun bs_seal_of 5 (b_seal_of r_pack) os = run os) : FnG P w K mg base (k + 1) "seal_of" bs_seal_of run :=
  ⟨fa, fd, p_seal_of, fnD F sc_seal_of rfl rfl hrun (fun cdv A outer s H vs E hr => d_seal_of T G_pack h_pack hr), m, F.kp, F.binds fun _ _ _ _ _ _ us hl => match us, hl with | [_, _, _, _], _ => rfl⟩
/-! ### sealed -/
abbrev s_sealed : Stmt := topS 14
abbrev N_sealed : List Str := ["writes", "found", "seal", "number", "version", "edits"]
abbrev p_sealed : List Str := ["writes"]
theorem sc_sealed : FnScope N_sealed p_sealed (defScope s_sealed) := ⟨rfl, rfl, rfl, by decide +kernel, rfl, by decide +kernel, by decide +kernel⟩
def b_sealed (r_seal_of : List O → Rs O) : En → Rs Fl := sSeq (sSet 1 (oLst (eNil))) (sSeq (sSet 2 (eSh (eC (.int (17))))) (sSeq (sFor (eEnum (eVar 0)) (tgT 2 [tgN 3, tgT 2 [tgN 4, tgN 5]]) (sSeq (sSet 2 (eSh (eFz (eCallU r_seal_of (aVal (eVar 2) (aVal (eVar 3) (aVal (eVar 4) (aVal (eAll tupOfD (eCons (eVar 5) (eNil))) (aNil))))))))) (sApp 1 (eAll tupD (eCons (eVar 3) (eCons (eVar 4) (eCons (eAll tupOfD (eCons (eVar 5) (eNil))) (eCons (eVar 2) (eNil))))))))) (sRet (eSh (eAll tupOfD (eCons (eVar 1) (eNil)))))))
theorem d_sealed {k : Nat} {k_seal_of : Nat} {r_seal_of : List O → Rs O} {fa : Addr} {cdv : Value} {A : Around} {outer : List Env} {s : Shared} {H : Hp} {vs : List V} {E : XK} (T : Tx K mg) (G_seal_of : FnG P w K mg base k_seal_of "seal_of" bs_seal_of r_seal_of) (h_seal_of : k_seal_of ≤ k) (hr : Room k (A.deeper (envOfC "sealed" (defScope s_sealed) s.heap.objs.size fa cdv))) :
    PSs (cxOf (L2.CX P w) P w K mg base N_sealed "sealed" (defScope s_sealed) fa cdv A outer s H E) (defBody s_sealed) (tS ⟨K, mg⟩ (fun c d _ H => E c d H) ⟨bs_sealed, vs⟩ (b_sealed r_seal_of)) :=
  psd_cons (psd_set (i := 1) sc_sealed.nd (by first | exact Or.inl rfl | exact Or.inr rfl) (po_lst (pad_nil)) (fun q => nomatch q)) (psd_cons (psd_set (i := 2) sc_sealed.nd (by first | exact Or.inl rfl | exact Or.inr rfl) (po_sh (pd_gint (by rfl) T.c_FIRST)) (fun q => nomatch q)) (psd_cons (psd_for (passes_of rfl) rfl (pid_enum (by rfl) T.n_enumerate (pd_var 0)) (pgd_tup rfl (pgsd_cons (pgd_name (i := 3) (ix := [3, 4, 5]) sc_sealed.nd (by first | exact Or.inl rfl | exact Or.inr rfl) (fun q => nomatch q) (by decide)) (pgsd_cons (pgd_tup rfl (pgsd_cons (pgd_name (i := 4) (ix := [3, 4, 5]) sc_sealed.nd (by first | exact Or.inl rfl | exact Or.inr rfl) (fun q => nomatch q) (by decide)) (pgsd_cons (pgd_name (i := 5) (ix := [3, 4, 5]) sc_sealed.nd (by first | exact Or.inl rfl | exact Or.inr rfl) (fun q => nomatch q) (by decide)) (pgsd_nil)))) (pgsd_nil)))) (psd_cons (psd_set (i := 2) sc_sealed.nd (by first | exact Or.inl rfl | exact Or.inr rfl) (po_sh (pd_fz (po_call G_seal_of (hr.mono h_seal_of) (by rfl) (takes_of rfl rfl rfl rfl) (paa_val (pd_var 2) (paa_val (pd_var 3) (paa_val (pd_var 4) (paa_val (pd_callTy cd_tuple (by rfl) T.n_tuple (by decide +kernel) (pad_cons (pd_var 5) (pad_nil))) (paa_nil))))) (aLen_val (aLen_val (aLen_val (aLen_val (aLen_nil)))))))) (fun q => nomatch q)) (psd_one (psd_app 1 (pd_tup (pad_cons (pd_var 3) (pad_cons (pd_var 4) (pad_cons (pd_callTy cd_tuple (by rfl) T.n_tuple (by decide +kernel) (pad_cons (pd_var 5) (pad_nil))) (pad_cons (pd_var 2) (pad_nil)))))))))) (psd_one (psd_ret (po_sh (pd_callTy cd_tuple (by rfl) T.n_tuple (by decide +kernel) (pad_cons (pd_var 1) (pad_nil))))))))
theorem g_sealed {k : Nat} {k_seal_of : Nat} {r_seal_of : List O → Rs O} {fa : Addr} {fd : FuncData} {run : List O → Rs O} (T : Tx K mg) (G_seal_of : FnG P w K mg base k_seal_of "seal_of" bs_seal_of r_seal_of) (h_seal_of : k_seal_of ≤ k) (F : Fun K "sealed" "sealed" s_sealed fa fd) (m : mg "sealed" = some (.ref fa))
    (hrun : ∀ os, os.length = 1 → run os ≠ .bad → fnRun bs_sealed 6 (b_sealed r_seal_of) os = run os) : FnG P w K mg base (k + 1) "sealed" bs_sealed run :=
  ⟨fa, fd, p_sealed, fnD F sc_sealed rfl rfl hrun (fun cdv A outer s H vs E hr => d_sealed T G_seal_of h_seal_of hr), m, F.kp, F.binds fun _ _ _ _ _ _ us hl => match us, hl with | [_], _ => rfl⟩
/-! ### first_break -/
abbrev s_first_break : Stmt := topS 15
abbrev N_first_break : List Str := ["log", "seal", "index", "number", "version", "edits", "told"]
abbrev p_first_break : List Str := ["log"]
theorem sc_first_break : FnScope N_first_break p_first_break (defScope s_first_break) := ⟨rfl, rfl, rfl, by decide +kernel, rfl, by decide +kernel, by decide +kernel⟩
def b_first_break (r_seal_of : List O → Rs O) : En → Rs Fl := sSeq (sSet 1 (eSh (eC (.int (17))))) (sSeq (sFor (eEnum (eVar 0)) (tgT 2 [tgN 2, tgT 4 [tgN 3, tgN 4, tgN 5, tgN 6]]) (sSeq (sSet 1 (eSh (eFz (eCallU r_seal_of (aVal (eVar 1) (aVal (eVar 3) (aVal (eVar 4) (aVal (eVar 5) (aNil))))))))) (sIf (eOr (eB (eBin neD (eVar 3) (eVar 2))) (eB (eBin neD (eVar 6) (eVar 1)))) (sRet (eSh (eVar 2))) (sNext)))) (sRet (eSh (eC .none))))
theorem d_first_break {k : Nat} {k_seal_of : Nat} {r_seal_of : List O → Rs O} {fa : Addr} {cdv : Value} {A : Around} {outer : List Env} {s : Shared} {H : Hp} {vs : List V} {E : XK} (T : Tx K mg) (G_seal_of : FnG P w K mg base k_seal_of "seal_of" bs_seal_of r_seal_of) (h_seal_of : k_seal_of ≤ k) (hr : Room k (A.deeper (envOfC "first_break" (defScope s_first_break) s.heap.objs.size fa cdv))) :
    PSs (cxOf (L2.CX P w) P w K mg base N_first_break "first_break" (defScope s_first_break) fa cdv A outer s H E) (defBody s_first_break) (tS ⟨K, mg⟩ (fun c d _ H => E c d H) ⟨bs_first_break, vs⟩ (b_first_break r_seal_of)) :=
  psd_cons (psd_set (i := 1) sc_first_break.nd (by first | exact Or.inl rfl | exact Or.inr rfl) (po_sh (pd_gint (by rfl) T.c_FIRST)) (fun q => nomatch q)) (psd_cons (psd_for (passes_of rfl) rfl (pid_enum (by rfl) T.n_enumerate (pd_var 0)) (pgd_tup rfl (pgsd_cons (pgd_name (i := 2) (ix := [2, 3, 4, 5, 6]) sc_first_break.nd (by first | exact Or.inl rfl | exact Or.inr rfl) (fun q => nomatch q) (by decide)) (pgsd_cons (pgd_tup rfl (pgsd_cons (pgd_name (i := 3) (ix := [2, 3, 4, 5, 6]) sc_first_break.nd (by first | exact Or.inl rfl | exact Or.inr rfl) (fun q => nomatch q) (by decide)) (pgsd_cons (pgd_name (i := 4) (ix := [2, 3, 4, 5, 6]) sc_first_break.nd (by first | exact Or.inl rfl | exact Or.inr rfl) (fun q => nomatch q) (by decide)) (pgsd_cons (pgd_name (i := 5) (ix := [2, 3, 4, 5, 6]) sc_first_break.nd (by first | exact Or.inl rfl | exact Or.inr rfl) (fun q => nomatch q) (by decide)) (pgsd_cons (pgd_name (i := 6) (ix := [2, 3, 4, 5, 6]) sc_first_break.nd (by first | exact Or.inl rfl | exact Or.inr rfl) (fun q => nomatch q) (by decide)) (pgsd_nil)))))) (pgsd_nil)))) (psd_cons (psd_set (i := 1) sc_first_break.nd (by first | exact Or.inl rfl | exact Or.inr rfl) (po_sh (pd_fz (po_call G_seal_of (hr.mono h_seal_of) (by rfl) (takes_of rfl rfl rfl rfl) (paa_val (pd_var 1) (paa_val (pd_var 3) (paa_val (pd_var 4) (paa_val (pd_var 5) (paa_nil))))) (aLen_val (aLen_val (aLen_val (aLen_val (aLen_nil)))))))) (fun q => nomatch q)) (psd_one (psd_if (PW.pt (pwd_or (ptd_cmp (od_ne hr.units) (pd_var 3) (pd_var 2) (nomark _)) (pwd_or1 (ptd_cmp (od_ne hr.units) (pd_var 6) (pd_var 1) (nomark _))))) (psd_one (psd_ret (po_sh (pd_var 2)))) (psd_nil))))) (psd_one (psd_ret (po_sh (pd_non)))))
theorem g_first_break {k : Nat} {k_seal_of : Nat} {r_seal_of : List O → Rs O} {fa : Addr} {fd : FuncData} {run : List O → Rs O} (T : Tx K mg) (G_seal_of : FnG P w K mg base k_seal_of "seal_of" bs_seal_of r_seal_of) (h_seal_of : k_seal_of ≤ k) (F : Fun K "first_break" "first_break" s_first_break fa fd) (m : mg "first_break" = some (.ref fa))
    (hrun : ∀ os, os.length = 1 → run os ≠ .bad → fnRun bs_first_break 7 (b_first_break r_seal_of) os = run os) : FnG P w K mg base (k + 1) "first_break" bs_first_break run :=
  ⟨fa, fd, p_first_break, fnD F sc_first_break rfl rfl hrun (fun cdv A outer s H vs E hr => d_first_break T G_seal_of h_seal_of hr), m, F.kp, F.binds fun _ _ _ _ _ _ us hl => match us, hl with | [_], _ => rfl⟩
/-! ### _law_tape -/
abbrev s__law_tape : Stmt := topS 17
abbrev N__law_tape : List Str := ["script", "cells", "cell", "seed"]
abbrev p__law_tape : List Str := ["script"]
theorem sc__law_tape : FnScope N__law_tape p__law_tape (defScope s__law_tape) := ⟨rfl, rfl, rfl, by decide +kernel, rfl, by decide +kernel, by decide +kernel⟩
def b__law_tape : En → Rs Fl := sSeq (sSet 1 (oComp (eScr 0) (tgN 2) [2] (ret true) (eAll absD (eCons (eAll intD (eCons (eVar 2) (eNil))) (eNil))))) (sSeq (sSet 3 (eSh (eC (.int 7)))) (sSeq (sFor (eSeq (eVar 1)) (tgN 2) (sSet 3 (eSh (eBin modD (eAll intD (eCons (eBin addD (eBin mulD (eVar 3) (eC (.int 31))) (eVar 2)) (eNil))) (eC (.int 2147483647)))))) (sRet (oDic [(eC (.str (Str.ofString "cells")), eVar 1), (eC (.str (Str.ofString "at")), eC (.int 0)), (eC (.str (Str.ofString "left")), eC (.int 0)), (eC (.str (Str.ofString "seed")), eVar 3), (eC (.str (Str.ofString "salt")), eC (.int 0))]))))
theorem d__law_tape {k : Nat} {fa : Addr} {cdv : Value} {A : Around} {outer : List Env} {s : Shared} {H : Hp} {vs : List V} {E : XK} (T : Tx K mg) (hr : Room k (A.deeper (envOfC "_law_tape" (defScope s__law_tape) s.heap.objs.size fa cdv))) :
    PSs (cxOf (L2.CX P w) P w K mg base N__law_tape "_law_tape" (defScope s__law_tape) fa cdv A outer s H E) (defBody s__law_tape) (tS ⟨K, mg⟩ (fun c d _ H => E c d H) ⟨bs__law_tape, vs⟩ (b__law_tape)) :=
  psd_cons (psd_setLc (i := 1) (own := [("cell", 2)]) rfl sc__law_tape.nd rfl (fun q => nomatch q) (sw_true rfl rfl rfl (by decide +kernel)) (pid_scr 0) (blkOk_by (own := [("cell", 2)]) (N := N__law_tape) (sc := defScope s__law_tape) (by decide +kernel)) (fun _ _ _ _ _ => pgd_name (i := 2) (ix := [2]) sc__law_tape.nd (by first | exact Or.inl rfl | exact Or.inr rfl) (fun q => nomatch q) (by decide)) (fun _ _ _ _ _ => ptsd_nil) (fun _ _ _ _ _ => pd_callB cd_abs (by rfl) T.n_abs (by decide +kernel) (pad_cons (pd_callTy cd_int (by rfl) T.n_int (by decide +kernel) (pad_cons (pd_var 2) (pad_nil))) (pad_nil)))) (psd_cons (psd_set (i := 3) sc__law_tape.nd (by first | exact Or.inl rfl | exact Or.inr rfl) (po_sh (pd_int)) (fun q => nomatch q)) (psd_cons (psd_for (passes_of rfl) rfl (pid_seq (pd_var 1)) (pgd_name (i := 2) (ix := [2]) sc__law_tape.nd (by first | exact Or.inl rfl | exact Or.inr rfl) (fun q => nomatch q) (by decide)) (psd_one (psd_set (i := 3) sc__law_tape.nd (by first | exact Or.inl rfl | exact Or.inr rfl) (po_sh (pd_bin od_mod (pd_callTy cd_int (by rfl) T.n_int (by decide +kernel) (pad_cons (pd_bin od_add (pd_bin od_mul (pd_var 3) (pd_int)) (pd_var 2)) (pad_nil))) (pd_int))) (fun q => nomatch q)))) (psd_one (psd_ret (po_dic (ps := [(eC (.str (Str.ofString "cells")), eVar 1), (eC (.str (Str.ofString "at")), eC (.int 0)), (eC (.str (Str.ofString "left")), eC (.int 0)), (eC (.str (Str.ofString "seed")), eVar 3), (eC (.str (Str.ofString "salt")), eC (.int 0))]) (pps_cons (pd_str) (pd_var 1) (pps_cons (pd_str) (pd_int) (pps_cons (pd_str) (pd_int) (pps_cons (pd_str) (pd_var 3) (pps_cons (pd_str) (pd_int) (pps_nil)))))))))))
theorem g__law_tape {k : Nat} {fa : Addr} {fd : FuncData} {run : List O → Rs O} (T : Tx K mg) (F : Fun K "_law_tape" "_law_tape" s__law_tape fa fd) (m : mg "_law_tape" = some (.ref fa))
    (hrun : ∀ os, os.length = 1 → run os ≠ .bad → fnRun bs__law_tape 4 (b__law_tape) os = run os) : FnG P w K mg base (k + 1) "_law_tape" bs__law_tape run :=
  ⟨fa, fd, p__law_tape, fnD F sc__law_tape rfl rfl hrun (fun cdv A outer s H vs E hr => d__law_tape T hr), m, F.kp, F.binds fun _ _ _ _ _ _ us hl => match us, hl with | [_], _ => rfl⟩
/-! ### _law_take -/
abbrev s__law_take : Stmt := topS 18
abbrev N__law_take : List Str := ["tape", "many", "drawn", "mixed"]
abbrev p__law_take : List Str := ["tape", "many"]
theorem sc__law_take : FnScope N__law_take p__law_take (defScope s__law_take) := ⟨rfl, rfl, rfl, by decide +kernel, rfl, by decide +kernel, by decide +kernel⟩
def b__law_take : En → Rs Fl := sSeq (sIf (eAnd (eB (eBin eqD (eSub 0 (eC (.str (Str.ofString "left")))) (eC (.int 0)))) (eB (eBin ltD (eSub 0 (eC (.str (Str.ofString "at")))) (eAll lenD (eCons (eSub 0 (eC (.str (Str.ofString "cells")))) (eNil)))))) (sSeq (sPut 0 (eC (.str (Str.ofString "left"))) (eBin idxD (eSub 0 (eC (.str (Str.ofString "cells")))) (eSub 0 (eC (.str (Str.ofString "at")))))) (sPut 0 (eC (.str (Str.ofString "at"))) (eBin addD (eSub 0 (eC (.str (Str.ofString "at")))) (eC (.int 1))))) (sNext)) (sSeq (sIf (eB (eBin gtD (eSub 0 (eC (.str (Str.ofString "left")))) (eC (.int 0)))) (sSeq (sSet 2 (eSh (eBin modD (eAll intD (eCons (eSub 0 (eC (.str (Str.ofString "left")))) (eNil))) (eVar 1)))) (sSeq (sPut 0 (eC (.str (Str.ofString "left"))) (eBin fdivD (eSub 0 (eC (.str (Str.ofString "left")))) (eVar 1))) (sRet (eSh (eVar 2))))) (sNext)) (sSeq (sPut 0 (eC (.str (Str.ofString "salt"))) (eBin addD (eSub 0 (eC (.str (Str.ofString "salt")))) (eC (.int 1)))) (sSeq (sSet 3 (eSh (eBin modD (eAll intD (eCons (eBin addD (eBin mulD (eSub 0 (eC (.str (Str.ofString "seed")))) (eC (.int 48271))) (eBin mulD (eSub 0 (eC (.str (Str.ofString "salt")))) (eC (.int 69621)))) (eNil))) (eC (.int 2147483647))))) (sSeq (sSet 3 (eSh (eBin modD (eAll intD (eCons (eBin addD (eBin addD (eBin mulD (eVar 3) (eVar 3)) (eBin mulD (eSub 0 (eC (.str (Str.ofString "salt")))) (eC (.int 40692)))) (eC (.int 12345))) (eNil))) (eC (.int 2147483399))))) (sRet (eSh (eBin modD (eAll intD (eCons (eVar 3) (eNil))) (eVar 1))))))))
theorem d__law_take {k : Nat} {fa : Addr} {cdv : Value} {A : Around} {outer : List Env} {s : Shared} {H : Hp} {vs : List V} {E : XK} (T : Tx K mg) (hr : Room k (A.deeper (envOfC "_law_take" (defScope s__law_take) s.heap.objs.size fa cdv))) :
    PSs (cxOf (L2.CX P w) P w K mg base N__law_take "_law_take" (defScope s__law_take) fa cdv A outer s H E) (defBody s__law_take) (tS ⟨K, mg⟩ (fun c d _ H => E c d H) ⟨bs__law_take, vs⟩ (b__law_take)) :=
  psd_cons (psd_if (PW.pt (pwd_and (ptd_cmp (od_eq hr.units) (pd_sub (hu_of hr) 0 (pd_str) (fun _ _ => rfl)) (pd_int) (nomark _)) (pwd_and1 (ptd_cmp od_lt (pd_sub (hu_of hr) 0 (pd_str) (fun _ _ => rfl)) (pd_callB cd_len (by rfl) T.n_len (by decide +kernel) (pad_cons (pd_sub (hu_of hr) 0 (pd_str) (fun _ _ => rfl)) (pad_nil))) (nomark _))))) (psd_cons (psd_put (hu_of hr) 0 (pd_str) (pd_ix (hu_of hr) (pd_sub (hu_of hr) 0 (pd_str) (fun _ _ => rfl)) (pd_sub (hu_of hr) 0 (pd_str) (fun _ _ => rfl)) (fun _ _ => rfl))) (psd_one (psd_put (hu_of hr) 0 (pd_str) (pd_bin od_add (pd_sub (hu_of hr) 0 (pd_str) (fun _ _ => rfl)) (pd_int))))) (psd_nil)) (psd_cons (psd_if (ptd_cmp od_gt (pd_sub (hu_of hr) 0 (pd_str) (fun _ _ => rfl)) (pd_int) (nomark _)) (psd_cons (psd_set (i := 2) sc__law_take.nd (by first | exact Or.inl rfl | exact Or.inr rfl) (po_sh (pd_bin od_mod (pd_callTy cd_int (by rfl) T.n_int (by decide +kernel) (pad_cons (pd_sub (hu_of hr) 0 (pd_str) (fun _ _ => rfl)) (pad_nil))) (pd_var 1))) (fun q => nomatch q)) (psd_cons (psd_put (hu_of hr) 0 (pd_str) (pd_bin od_fdiv (pd_sub (hu_of hr) 0 (pd_str) (fun _ _ => rfl)) (pd_var 1))) (psd_one (psd_ret (po_sh (pd_var 2)))))) (psd_nil)) (psd_cons (psd_put (hu_of hr) 0 (pd_str) (pd_bin od_add (pd_sub (hu_of hr) 0 (pd_str) (fun _ _ => rfl)) (pd_int))) (psd_cons (psd_set (i := 3) sc__law_take.nd (by first | exact Or.inl rfl | exact Or.inr rfl) (po_sh (pd_bin od_mod (pd_callTy cd_int (by rfl) T.n_int (by decide +kernel) (pad_cons (pd_bin od_add (pd_bin od_mul (pd_sub (hu_of hr) 0 (pd_str) (fun _ _ => rfl)) (pd_int)) (pd_bin od_mul (pd_sub (hu_of hr) 0 (pd_str) (fun _ _ => rfl)) (pd_int))) (pad_nil))) (pd_int))) (fun q => nomatch q)) (psd_cons (psd_set (i := 3) sc__law_take.nd (by first | exact Or.inl rfl | exact Or.inr rfl) (po_sh (pd_bin od_mod (pd_callTy cd_int (by rfl) T.n_int (by decide +kernel) (pad_cons (pd_bin od_add (pd_bin od_add (pd_bin od_mul (pd_var 3) (pd_var 3)) (pd_bin od_mul (pd_sub (hu_of hr) 0 (pd_str) (fun _ _ => rfl)) (pd_int))) (pd_int)) (pad_nil))) (pd_int))) (fun q => nomatch q)) (psd_one (psd_ret (po_sh (pd_bin od_mod (pd_callTy cd_int (by rfl) T.n_int (by decide +kernel) (pad_cons (pd_var 3) (pad_nil))) (pd_var 1)))))))))
theorem g__law_take {k : Nat} {fa : Addr} {fd : FuncData} {run : List O → Rs O} (T : Tx K mg) (F : Fun K "_law_take" "_law_take" s__law_take fa fd) (m : mg "_law_take" = some (.ref fa))
    (hrun : ∀ os, os.length = 2 → run os ≠ .bad → fnRun bs__law_take 4 (b__law_take) os = run os) : FnG P w K mg base (k + 1) "_law_take" bs__law_take run :=
  ⟨fa, fd, p__law_take, fnD F sc__law_take rfl rfl hrun (fun cdv A outer s H vs E hr => d__law_take T hr), m, F.kp, F.binds fun _ _ _ _ _ _ us hl => match us, hl with | [_, _], _ => rfl⟩
/-! ### _law_is_integer -/
abbrev s__law_is_integer : Stmt := topS 19
abbrev N__law_is_integer : List Str := ["actual"]
abbrev p__law_is_integer : List Str := ["actual"]
theorem sc__law_is_integer : FnScope N__law_is_integer p__law_is_integer (defScope s__law_is_integer) := ⟨rfl, rfl, rfl, by decide +kernel, rfl, by decide +kernel, by decide +kernel⟩
def b__law_is_integer : En → Rs Fl := sRet (eSh (eAndV (bnd (eVar 0) fun d => ret (.bool (vi_int d))) (eNotV (bnd (eVar 0) fun d => ret (.bool (vi_bool d))))))
theorem d__law_is_integer {k : Nat} {fa : Addr} {cdv : Value} {A : Around} {outer : List Env} {s : Shared} {H : Hp} {vs : List V} {E : XK} (T : Tx K mg) (hr : Room k (A.deeper (envOfC "_law_is_integer" (defScope s__law_is_integer) s.heap.objs.size fa cdv))) :
    PSs (cxOf (L2.CX P w) P w K mg base N__law_is_integer "_law_is_integer" (defScope s__law_is_integer) fa cdv A outer s H E) (defBody s__law_is_integer) (tS ⟨K, mg⟩ (fun c d _ H => E c d H) ⟨bs__law_is_integer, vs⟩ (b__law_is_integer)) :=
  psd_one (psd_ret (po_sh (pd_and (pd_isi vis_int (by rfl) T.n_isinstance (by decide +kernel) (by rfl) T.n_int (by decide +kernel) (pd_var 0)) (pd_one (pd_not (pd_isi vis_bool (by rfl) T.n_isinstance (by decide +kernel) (by rfl) T.n_bool (by decide +kernel) (pd_var 0)))))))
theorem g__law_is_integer {k : Nat} {fa : Addr} {fd : FuncData} {run : List O → Rs O} (T : Tx K mg) (F : Fun K "_law_is_integer" "_law_is_integer" s__law_is_integer fa fd) (m : mg "_law_is_integer" = some (.ref fa))
    (hrun : ∀ os, os.length = 1 → run os ≠ .bad → fnRun bs__law_is_integer 1 (b__law_is_integer) os = run os) : FnG P w K mg base (k + 1) "_law_is_integer" bs__law_is_integer run :=
  ⟨fa, fd, p__law_is_integer, fnD F sc__law_is_integer rfl rfl hrun (fun cdv A outer s H vs E hr => d__law_is_integer T hr), m, F.kp, F.binds fun _ _ _ _ _ _ us hl => match us, hl with | [_], _ => rfl⟩
/-! ### _law_same_items -/
abbrev s__law_same_items : Stmt := topS 20
abbrev N__law_same_items : List Str := ["actual", "expected", "k"]
abbrev p__law_same_items : List Str := ["actual", "expected"]
theorem sc__law_same_items : FnScope N__law_same_items p__law_same_items (defScope s__law_same_items) := ⟨rfl, rfl, rfl, by decide +kernel, rfl, by decide +kernel, by decide +kernel⟩
def b__law_same_items (r__law_same : List O → Rs O) : En → Rs Fl := sSeq (sIf (eB (eBin neD (eAll lenD (eCons (eVar 0) (eNil))) (eAll lenD (eCons (eVar 1) (eNil))))) (sRet (eSh (eC (.bool false)))) (sNext)) (sSeq (sFor (eRng (eAll lenD (eCons (eVar 1) (eNil)))) (tgN 2) (sIf (eNot (eB (eFz (eCallU r__law_same (aVal (eSub 0 (eVar 2)) (aVal (eSub 1 (eVar 2)) (aNil))))))) (sRet (eSh (eC (.bool false)))) (sNext))) (sRet (eSh (eC (.bool true)))))
theorem d__law_same_items {k : Nat} {k__law_same : Nat} {r__law_same : List O → Rs O} {fa : Addr} {cdv : Value} {A : Around} {outer : List Env} {s : Shared} {H : Hp} {vs : List V} {E : XK} (T : Tx K mg) (G__law_same : FnG P w K mg base k__law_same "_law_same" bs__law_same r__law_same) (h__law_same : k__law_same ≤ k) (hr : Room k (A.deeper (envOfC "_law_same_items" (defScope s__law_same_items) s.heap.objs.size fa cdv))) :
    PSs (cxOf (L2.CX P w) P w K mg base N__law_same_items "_law_same_items" (defScope s__law_same_items) fa cdv A outer s H E) (defBody s__law_same_items) (tS ⟨K, mg⟩ (fun c d _ H => E c d H) ⟨bs__law_same_items, vs⟩ (b__law_same_items r__law_same)) :=
  psd_cons (psd_if (ptd_cmp (od_ne hr.units) (pd_callB cd_len (by rfl) T.n_len (by decide +kernel) (pad_cons (pd_var 0) (pad_nil))) (pd_callB cd_len (by rfl) T.n_len (by decide +kernel) (pad_cons (pd_var 1) (pad_nil))) (nomark _)) (psd_one (psd_ret (po_sh (pd_bl)))) (psd_nil)) (psd_cons (psd_for (passes_of rfl) rfl (pid_rng (by rfl) T.n_range (pd_callB cd_len (by rfl) T.n_len (by decide +kernel) (pad_cons (pd_var 1) (pad_nil)))) (pgd_name (i := 2) (ix := [2]) sc__law_same_items.nd (by first | exact Or.inl rfl | exact Or.inr rfl) (fun q => nomatch q) (by decide)) (psd_one (psd_if (ptd_not (ptd_val (pd_fz (po_call G__law_same (hr.mono h__law_same) (by rfl) (takes_of rfl rfl rfl rfl) (paa_val (pd_sub (hu_of hr) 0 (pd_var 2) (fun _ _ => rfl)) (paa_val (pd_sub (hu_of hr) 1 (pd_var 2) (fun _ _ => rfl)) (paa_nil))) (aLen_val (aLen_val (aLen_nil))))))) (psd_one (psd_ret (po_sh (pd_bl)))) (psd_nil)))) (psd_one (psd_ret (po_sh (pd_bl)))))
theorem g__law_same_items {k : Nat} {k__law_same : Nat} {r__law_same : List O → Rs O} {fa : Addr} {fd : FuncData} {run : List O → Rs O} (T : Tx K mg) (G__law_same : FnG P w K mg base k__law_same "_law_same" bs__law_same r__law_same) (h__law_same : k__law_same ≤ k) (F : Fun K "_law_same_items" "_law_same_items" s__law_same_items fa fd) (m : mg "_law_same_items" = some (.ref fa))
    (hrun : ∀ os, os.length = 2 → run os ≠ .bad → fnRun bs__law_same_items 3 (b__law_same_items r__law_same) os = run os) : FnG P w K mg base (k + 1) "_law_same_items" bs__law_same_items run :=
  ⟨fa, fd, p__law_same_items, fnD F sc__law_same_items rfl rfl hrun (fun cdv A outer s H vs E hr => d__law_same_items T G__law_same h__law_same hr), m, F.kp, F.binds fun _ _ _ _ _ _ us hl => match us, hl with | [_, _], _ => rfl⟩
/-! ### _law_same -/
abbrev s__law_same : Stmt := topS 21
abbrev N__law_same : List Str := ["actual", "expected", "key"]
abbrev p__law_same : List Str := ["actual", "expected"]
theorem sc__law_same : FnScope N__law_same p__law_same (defScope s__law_same) := ⟨rfl, rfl, rfl, by decide +kernel, rfl, by decide +kernel, by decide +kernel⟩
def b__law_same (r__law_is_integer r__law_same_items : List O → Rs O) : En → Rs Fl := sSeq (sIf (eNN (eVar 1)) (sRet (eSh (eIsN (eVar 0)))) (sNext)) (sSeq (sIf (eB (bnd (eVar 1) fun d => ret (.bool (vi_bool d)))) (sRet (eSh (eAndV (bnd (eVar 0) fun d => ret (.bool (vi_bool d))) (eBin eqD (eVar 0) (eVar 1))))) (sNext)) (sSeq (sIf (eB (bnd (eVar 1) fun d => ret (.bool (vi_int d)))) (sRet (eSh (eAndV (eFz (eCallU r__law_is_integer (aVal (eVar 0) (aNil)))) (eBin eqD (eVar 0) (eVar 1))))) (sNext)) (sSeq (sIf (eB (bnd (eVar 1) fun d => ret (.bool (vi_str d)))) (sRet (eSh (eAndV (bnd (eVar 0) fun d => ret (.bool (vi_str d))) (eBin eqD (eVar 0) (eVar 1))))) (sNext)) (sSeq (sIf (eB (bnd (eVar 1) fun d => ret (.bool (vi_tuple d)))) (sRet (eSh (eAndV (bnd (eVar 0) fun d => ret (.bool (vi_tuple d))) (eFz (eCallU r__law_same_items (aVal (eVar 0) (aVal (eVar 1) (aNil)))))))) (sNext)) (sSeq (sIf (eB (bnd (eVar 1) fun d => ret (.bool (vi_list d)))) (sRet (eSh (eAndV (bnd (eVar 0) fun d => ret (.bool (vi_list d))) (eFz (eCallU r__law_same_items (aVal (eVar 0) (aVal (eVar 1) (aNil)))))))) (sNext)) (sNever))))))
theorem d__law_same {k : Nat} {k__law_is_integer : Nat} {r__law_is_integer : List O → Rs O} {k__law_same_items : Nat} {r__law_same_items : List O → Rs O} {fa : Addr} {cdv : Value} {A : Around} {outer : List Env} {s : Shared} {H : Hp} {vs : List V} {E : XK} (T : Tx K mg) (G__law_is_integer : FnG P w K mg base k__law_is_integer "_law_is_integer" bs__law_is_integer r__law_is_integer) (h__law_is_integer : k__law_is_integer ≤ k) (G__law_same_items : FnG P w K mg base k__law_same_items "_law_same_items" bs__law_same_items r__law_same_items) (h__law_same_items : k__law_same_items ≤ k) (hr : Room k (A.deeper (envOfC "_law_same" (defScope s__law_same) s.heap.objs.size fa cdv))) :
    PSs (cxOf (L2.CX P w) P w K mg base N__law_same "_law_same" (defScope s__law_same) fa cdv A outer s H E) (defBody s__law_same) (tS ⟨K, mg⟩ (fun c d _ H => E c d H) ⟨bs__law_same, vs⟩ (b__law_same r__law_is_integer r__law_same_items)) :=
  psd_cons (psd_if (ptd_isN (pd_var 1)) (psd_one (psd_ret (po_sh (pd_isN (pd_var 0))))) (psd_nil)) (psd_cons (psd_if (ptd_val (pd_isi vis_bool (by rfl) T.n_isinstance (by decide +kernel) (by rfl) T.n_bool (by decide +kernel) (pd_var 1))) (psd_one (psd_ret (po_sh (pd_and (pd_isi vis_bool (by rfl) T.n_isinstance (by decide +kernel) (by rfl) T.n_bool (by decide +kernel) (pd_var 0)) (pd_one (pd_cmp (od_eq hr.units) (pd_var 0) (pd_var 1) (nomark _))))))) (psd_nil)) (psd_cons (psd_if (ptd_val (pd_isi vis_int (by rfl) T.n_isinstance (by decide +kernel) (by rfl) T.n_int (by decide +kernel) (pd_var 1))) (psd_one (psd_ret (po_sh (pd_and (pd_fz (po_call G__law_is_integer (hr.mono h__law_is_integer) (by rfl) (takes_of rfl rfl rfl rfl) (paa_val (pd_var 0) (paa_nil)) (aLen_val (aLen_nil)))) (pd_one (pd_cmp (od_eq hr.units) (pd_var 0) (pd_var 1) (nomark _))))))) (psd_nil)) (psd_cons (psd_if (ptd_val (pd_isi vis_str (by rfl) T.n_isinstance (by decide +kernel) (by rfl) T.n_str (by decide +kernel) (pd_var 1))) (psd_one (psd_ret (po_sh (pd_and (pd_isi vis_str (by rfl) T.n_isinstance (by decide +kernel) (by rfl) T.n_str (by decide +kernel) (pd_var 0)) (pd_one (pd_cmp (od_eq hr.units) (pd_var 0) (pd_var 1) (nomark _))))))) (psd_nil)) (psd_cons (psd_if (ptd_val (pd_isi vis_tuple (by rfl) T.n_isinstance (by decide +kernel) (by rfl) T.n_tuple (by decide +kernel) (pd_var 1))) (psd_one (psd_ret (po_sh (pd_and (pd_isi vis_tuple (by rfl) T.n_isinstance (by decide +kernel) (by rfl) T.n_tuple (by decide +kernel) (pd_var 0)) (pd_one (pd_fz (po_call G__law_same_items (hr.mono h__law_same_items) (by rfl) (takes_of rfl rfl rfl rfl) (paa_val (pd_var 0) (paa_val (pd_var 1) (paa_nil))) (aLen_val (aLen_val (aLen_nil)))))))))) (psd_nil)) (psd_cons (psd_if (ptd_val (pd_isi vis_list (by rfl) T.n_isinstance (by decide +kernel) (by rfl) T.n_list (by decide +kernel) (pd_var 1))) (psd_one (psd_ret (po_sh (pd_and (pd_isi vis_list (by rfl) T.n_isinstance (by decide +kernel) (by rfl) T.n_list (by decide +kernel) (pd_var 0)) (pd_one (pd_fz (po_call G__law_same_items (hr.mono h__law_same_items) (by rfl) (takes_of rfl rfl rfl rfl) (paa_val (pd_var 0) (paa_val (pd_var 1) (paa_nil))) (aLen_val (aLen_val (aLen_nil)))))))))) (psd_nil)) (pssd_never))))))
theorem g__law_same {k : Nat} {k__law_is_integer : Nat} {r__law_is_integer : List O → Rs O} {k__law_same_items : Nat} {r__law_same_items : List O → Rs O} {fa : Addr} {fd : FuncData} {run : List O → Rs O} (T : Tx K mg) (G__law_is_integer : FnG P w K mg base k__law_is_integer "_law_is_integer" bs__law_is_integer r__law_is_integer) (h__law_is_integer : k__law_is_integer ≤ k) (G__law_same_items : FnG P w K mg base k__law_same_items "_law_same_items" bs__law_same_items r__law_same_items) (h__law_same_items : k__law_same_items ≤ k) (F : Fun K "_law_same" "_law_same" s__law_same fa fd) (m : mg "_law_same" = some (.ref fa))
    (hrun : ∀ os, os.length = 2 → run os ≠ .bad → fnRun bs__law_same 3 (b__law_same r__law_is_integer r__law_same_items) os = run os) : FnG P w K mg base (k + 1) "_law_same" bs__law_same run :=
  ⟨fa, fd, p__law_same, fnD F sc__law_same rfl rfl hrun (fun cdv A outer s H vs E hr => d__law_same T G__law_is_integer h__law_is_integer G__law_same_items h__law_same_items hr), m, F.kp, F.binds fun _ _ _ _ _ _ us hl => match us, hl with | [_, _], _ => rfl⟩
/-! ### _law_char -/
abbrev s__law_char : Stmt := topS 23
abbrev N__law_char : List Str := ["tape", "chars"]
abbrev p__law_char : List Str := ["tape"]
theorem sc__law_char : FnScope N__law_char p__law_char (defScope s__law_char) := ⟨rfl, rfl, rfl, by decide +kernel, rfl, by decide +kernel, by decide +kernel⟩
def b__law_char (r__law_take : List O → Rs O) : En → Rs Fl := sSeq (sSet 1 (eSh (eC (.str (Str.ofString " !\"#$&'()*+,-./0123456789:;<=>?@ABCDEFGHIJKLMNOPQRSTUVWXYZ[\\]^"))))) (sSeq (sSet 1 (eSh (eBin addD (eVar 1) (eC (.str (Str.ofString "_`abcdefghijklmnopqrstuvwxyz{|}~")))))) (sSeq (sIf (eB (eBin eqD (eFz (eCallU r__law_take (aBor 0 (aVal (eC (.int 3)) (aNil))))) (eC (.int 0)))) (sRet (eSh (eSub 1 (eFz (eCallU r__law_take (aBor 0 (aVal (eC (.int 94)) (aNil)))))))) (sNext)) (sRet (eSh (eBin idxD (eC (.str (Str.ofString "ab -07"))) (eFz (eCallU r__law_take (aBor 0 (aVal (eC (.int 6)) (aNil))))))))))
theorem d__law_char {k : Nat} {k__law_take : Nat} {r__law_take : List O → Rs O} {fa : Addr} {cdv : Value} {A : Around} {outer : List Env} {s : Shared} {H : Hp} {vs : List V} {E : XK} (T : Tx K mg) (G__law_take : FnG P w K mg base k__law_take "_law_take" bs__law_take r__law_take) (h__law_take : k__law_take ≤ k) (hr : Room k (A.deeper (envOfC "_law_char" (defScope s__law_char) s.heap.objs.size fa cdv))) :
    PSs (cxOf (L2.CX P w) P w K mg base N__law_char "_law_char" (defScope s__law_char) fa cdv A outer s H E) (defBody s__law_char) (tS ⟨K, mg⟩ (fun c d _ H => E c d H) ⟨bs__law_char, vs⟩ (b__law_char r__law_take)) :=
  psd_cons (psd_set (i := 1) sc__law_char.nd (by first | exact Or.inl rfl | exact Or.inr rfl) (po_sh (pd_str)) (fun q => nomatch q)) (psd_cons (psd_set (i := 1) sc__law_char.nd (by first | exact Or.inl rfl | exact Or.inr rfl) (po_sh (pd_bin od_add (pd_var 1) (pd_str))) (fun q => nomatch q)) (psd_cons (psd_if (ptd_cmp (od_eq hr.units) (pd_fz (po_call G__law_take (hr.mono h__law_take) (by rfl) (takes_of rfl rfl rfl rfl) (paa_bor 0 (paa_val (pd_int) (paa_nil))) (aLen_bor (aLen_val (aLen_nil))))) (pd_int) (nomark _)) (psd_one (psd_ret (po_sh (pd_sub (hu_of hr) 1 (pd_fz (po_call G__law_take (hr.mono h__law_take) (by rfl) (takes_of rfl rfl rfl rfl) (paa_bor 0 (paa_val (pd_int) (paa_nil))) (aLen_bor (aLen_val (aLen_nil))))) (fun _ _ => rfl))))) (psd_nil)) (psd_one (psd_ret (po_sh (pd_ix (hu_of hr) (pd_str) (pd_fz (po_call G__law_take (hr.mono h__law_take) (by rfl) (takes_of rfl rfl rfl rfl) (paa_bor 0 (paa_val (pd_int) (paa_nil))) (aLen_bor (aLen_val (aLen_nil))))) (fun _ _ => rfl)))))))
theorem g__law_char {k : Nat} {k__law_take : Nat} {r__law_take : List O → Rs O} {fa : Addr} {fd : FuncData} {run : List O → Rs O} (T : Tx K mg) (G__law_take : FnG P w K mg base k__law_take "_law_take" bs__law_take r__law_take) (h__law_take : k__law_take ≤ k) (F : Fun K "_law_char" "_law_char" s__law_char fa fd) (m : mg "_law_char" = some (.ref fa))
    (hrun : ∀ os, os.length = 1 → run os ≠ .bad → fnRun bs__law_char 2 (b__law_char r__law_take) os = run os) : FnG P w K mg base (k + 1) "_law_char" bs__law_char run :=
  ⟨fa, fd, p__law_char, fnD F sc__law_char rfl rfl hrun (fun cdv A outer s H vs E hr => d__law_char T G__law_take h__law_take hr), m, F.kp, F.binds fun _ _ _ _ _ _ us hl => match us, hl with | [_], _ => rfl⟩
/-! ### _law_text -/
abbrev s__law_text : Stmt := topS 24
abbrev N__law_text : List Str := ["tape", "size", "k"]
abbrev p__law_text : List Str := ["tape"]
theorem sc__law_text : FnScope N__law_text p__law_text (defScope s__law_text) := ⟨rfl, rfl, rfl, by decide +kernel, rfl, by decide +kernel, by decide +kernel⟩
def b__law_text (r__law_take r__law_char : List O → Rs O) : En → Rs Fl := sSeq (sSet 1 (eSh (eFz (eCallU r__law_take (aBor 0 (aVal (eC (.int 6)) (aNil))))))) (sSeq (sIf (eB (eBin eqD (eFz (eCallU r__law_take (aBor 0 (aVal (eC (.int 12)) (aNil))))) (eC (.int 5)))) (sSet 1 (eSh (eBin addD (eC (.int 25)) (eFz (eCallU r__law_take (aBor 0 (aVal (eC (.int 6)) (aNil)))))))) (sNext)) (sRet (eSh (eM1 joinD (eC (.str (Str.ofString ""))) (eFz (oComp (eRng (eVar 1)) (tgN 2) [2] (ret true) (eFz (eCallU r__law_char (aBor 0 (aNil))))))))))
theorem d__law_text {k : Nat} {k__law_take : Nat} {r__law_take : List O → Rs O} {k__law_char : Nat} {r__law_char : List O → Rs O} {fa : Addr} {cdv : Value} {A : Around} {outer : List Env} {s : Shared} {H : Hp} {vs : List V} {E : XK} (T : Tx K mg) (G__law_take : FnG P w K mg base k__law_take "_law_take" bs__law_take r__law_take) (h__law_take : k__law_take ≤ k) (G__law_char : FnG P w K mg base k__law_char "_law_char" bs__law_char r__law_char) (h__law_char : k__law_char ≤ k) (hr : Room k (A.deeper (envOfC "_law_text" (defScope s__law_text) s.heap.objs.size fa cdv))) :
    PSs (cxOf (L2.CX P w) P w K mg base N__law_text "_law_text" (defScope s__law_text) fa cdv A outer s H E) (defBody s__law_text) (tS ⟨K, mg⟩ (fun c d _ H => E c d H) ⟨bs__law_text, vs⟩ (b__law_text r__law_take r__law_char)) :=
  psd_cons (psd_set (i := 1) sc__law_text.nd (by first | exact Or.inl rfl | exact Or.inr rfl) (po_sh (pd_fz (po_call G__law_take (hr.mono h__law_take) (by rfl) (takes_of rfl rfl rfl rfl) (paa_bor 0 (paa_val (pd_int) (paa_nil))) (aLen_bor (aLen_val (aLen_nil)))))) (fun q => nomatch q)) (psd_cons (psd_if (ptd_cmp (od_eq hr.units) (pd_fz (po_call G__law_take (hr.mono h__law_take) (by rfl) (takes_of rfl rfl rfl rfl) (paa_bor 0 (paa_val (pd_int) (paa_nil))) (aLen_bor (aLen_val (aLen_nil))))) (pd_int) (nomark _)) (psd_one (psd_set (i := 1) sc__law_text.nd (by first | exact Or.inl rfl | exact Or.inr rfl) (po_sh (pd_bin od_add (pd_int) (pd_fz (po_call G__law_take (hr.mono h__law_take) (by rfl) (takes_of rfl rfl rfl rfl) (paa_bor 0 (paa_val (pd_int) (paa_nil))) (aLen_bor (aLen_val (aLen_nil))))))) (fun q => nomatch q))) (psd_nil)) (psd_one (psd_ret (po_sh (pd_m1 PySem.F.slot_str_join PySem.F.type_str_join md_join (pd_str) (pd_fz (po_comp (own := [("k", 2)]) rfl sc__law_text.nd (pid_rng (by rfl) T.n_range (pd_var 1)) (blkOk_by (own := [("k", 2)]) (N := N__law_text) (sc := defScope s__law_text) (by decide +kernel)) (fun _ _ _ _ _ => pgd_name (i := 2) (ix := [2]) sc__law_text.nd (by first | exact Or.inl rfl | exact Or.inr rfl) (fun q => nomatch q) (by decide)) (fun _ _ _ _ _ => ptsd_nil) (fun _ _ _ _ _ => pd_fz (po_call G__law_char (hr.mono h__law_char) (by rfl) takes0 (paa_bor 0 (paa_nil)) (aLen_bor (aLen_nil)))))))))))
theorem g__law_text {k : Nat} {k__law_take : Nat} {r__law_take : List O → Rs O} {k__law_char : Nat} {r__law_char : List O → Rs O} {fa : Addr} {fd : FuncData} {run : List O → Rs O} (T : Tx K mg) (G__law_take : FnG P w K mg base k__law_take "_law_take" bs__law_take r__law_take) (h__law_take : k__law_take ≤ k) (G__law_char : FnG P w K mg base k__law_char "_law_char" bs__law_char r__law_char) (h__law_char : k__law_char ≤ k) (F : Fun K "_law_text" "_law_text" s__law_text fa fd) (m : mg "_law_text" = some (.ref fa))
    (hrun : ∀ os, os.length = 1 → run os ≠ .bad → fnRun bs__law_text 3 (b__law_text r__law_take r__law_char) os = run os) : FnG P w K mg base (k + 1) "_law_text" bs__law_text run :=
  ⟨fa, fd, p__law_text, fnD F sc__law_text rfl rfl hrun (fun cdv A outer s H vs E hr => d__law_text T G__law_take h__law_take G__law_char h__law_char hr), m, F.kp, F.binds fun _ _ _ _ _ _ us hl => match us, hl with | [_], _ => rfl⟩
/-! ### _law_integer -/
abbrev s__law_integer : Stmt := topS 25
abbrev N__law_integer : List Str := ["tape", "choice"]
abbrev p__law_integer : List Str := ["tape"]
theorem sc__law_integer : FnScope N__law_integer p__law_integer (defScope s__law_integer) := ⟨rfl, rfl, rfl, by decide +kernel, rfl, by decide +kernel, by decide +kernel⟩
def b__law_integer (r__law_take : List O → Rs O) : En → Rs Fl := sSeq (sSet 1 (eSh (eFz (eCallU r__law_take (aBor 0 (aVal (eC (.int 8)) (aNil))))))) (sSeq (sIf (eB (eBin eqD (eVar 1) (eC (.int 0)))) (sRet (eSh (eBin subD (eFz (eCallU r__law_take (aBor 0 (aVal (eC (.int 1999999999)) (aNil))))) (eC (.int 999999999))))) (sNext)) (sSeq (sIf (eB (eBin eqD (eVar 1) (eC (.int 1)))) (sRet (eSh (eBin idxD (eAll lstD (eCons (eC (.int 999999999)) (eCons (eUn negD (eC (.int 999999999))) (eCons (eC (.int 999999998)) (eCons (eC (.int 0)) (eNil)))))) (eFz (eCallU r__law_take (aBor 0 (aVal (eC (.int 4)) (aNil)))))))) (sNext)) (sSeq (sIf (eB (eBin eqD (eVar 1) (eC (.int 2)))) (sRet (eSh (eUn negD (eFz (eCallU r__law_take (aBor 0 (aVal (eC (.int 12)) (aNil)))))))) (sNext)) (sRet (eSh (eFz (eCallU r__law_take (aBor 0 (aVal (eC (.int 6)) (aNil))))))))))
theorem d__law_integer {k : Nat} {k__law_take : Nat} {r__law_take : List O → Rs O} {fa : Addr} {cdv : Value} {A : Around} {outer : List Env} {s : Shared} {H : Hp} {vs : List V} {E : XK} (T : Tx K mg) (G__law_take : FnG P w K mg base k__law_take "_law_take" bs__law_take r__law_take) (h__law_take : k__law_take ≤ k) (hr : Room k (A.deeper (envOfC "_law_integer" (defScope s__law_integer) s.heap.objs.size fa cdv))) :
    PSs (cxOf (L2.CX P w) P w K mg base N__law_integer "_law_integer" (defScope s__law_integer) fa cdv A outer s H E) (defBody s__law_integer) (tS ⟨K, mg⟩ (fun c d _ H => E c d H) ⟨bs__law_integer, vs⟩ (b__law_integer r__law_take)) :=
  psd_cons (psd_set (i := 1) sc__law_integer.nd (by first | exact Or.inl rfl | exact Or.inr rfl) (po_sh (pd_fz (po_call G__law_take (hr.mono h__law_take) (by rfl) (takes_of rfl rfl rfl rfl) (paa_bor 0 (paa_val (pd_int) (paa_nil))) (aLen_bor (aLen_val (aLen_nil)))))) (fun q => nomatch q)) (psd_cons (psd_if (ptd_cmp (od_eq hr.units) (pd_var 1) (pd_int) (nomark _)) (psd_one (psd_ret (po_sh (pd_bin od_sub (pd_fz (po_call G__law_take (hr.mono h__law_take) (by rfl) (takes_of rfl rfl rfl rfl) (paa_bor 0 (paa_val (pd_int) (paa_nil))) (aLen_bor (aLen_val (aLen_nil))))) (pd_int))))) (psd_nil)) (psd_cons (psd_if (ptd_cmp (od_eq hr.units) (pd_var 1) (pd_int) (nomark _)) (psd_one (psd_ret (po_sh (pd_ix (hu_of hr) (pd_lst (pad_cons (pd_int) (pad_cons (pd_un ud_neg (pd_int)) (pad_cons (pd_int) (pad_cons (pd_int) (pad_nil)))))) (pd_fz (po_call G__law_take (hr.mono h__law_take) (by rfl) (takes_of rfl rfl rfl rfl) (paa_bor 0 (paa_val (pd_int) (paa_nil))) (aLen_bor (aLen_val (aLen_nil))))) (fun _ _ => rfl))))) (psd_nil)) (psd_cons (psd_if (ptd_cmp (od_eq hr.units) (pd_var 1) (pd_int) (nomark _)) (psd_one (psd_ret (po_sh (pd_un ud_neg (pd_fz (po_call G__law_take (hr.mono h__law_take) (by rfl) (takes_of rfl rfl rfl rfl) (paa_bor 0 (paa_val (pd_int) (paa_nil))) (aLen_bor (aLen_val (aLen_nil))))))))) (psd_nil)) (psd_one (psd_ret (po_sh (pd_fz (po_call G__law_take (hr.mono h__law_take) (by rfl) (takes_of rfl rfl rfl rfl) (paa_bor 0 (paa_val (pd_int) (paa_nil))) (aLen_bor (aLen_val (aLen_nil)))))))))))
theorem g__law_integer {k : Nat} {k__law_take : Nat} {r__law_take : List O → Rs O} {fa : Addr} {fd : FuncData} {run : List O → Rs O} (T : Tx K mg) (G__law_take : FnG P w K mg base k__law_take "_law_take" bs__law_take r__law_take) (h__law_take : k__law_take ≤ k) (F : Fun K "_law_integer" "_law_integer" s__law_integer fa fd) (m : mg "_law_integer" = some (.ref fa))
    (hrun : ∀ os, os.length = 1 → run os ≠ .bad → fnRun bs__law_integer 2 (b__law_integer r__law_take) os = run os) : FnG P w K mg base (k + 1) "_law_integer" bs__law_integer run :=
  ⟨fa, fd, p__law_integer, fnD F sc__law_integer rfl rfl hrun (fun cdv A outer s H vs E hr => d__law_integer T G__law_take h__law_take hr), m, F.kp, F.binds fun _ _ _ _ _ _ us hl => match us, hl with | [_], _ => rfl⟩
/-! ### _law_value -/
abbrev s__law_value : Stmt := topS 26
abbrev N__law_value : List Str := ["tape", "kind", "nullable"]
abbrev p__law_value : List Str := ["tape", "kind", "nullable"]
theorem sc__law_value : FnScope N__law_value p__law_value (defScope s__law_value) := ⟨rfl, rfl, rfl, by decide +kernel, rfl, by decide +kernel, by decide +kernel⟩
def b__law_value (r__law_take r__law_integer r__law_text : List O → Rs O) : En → Rs Fl := sSeq (sIf (eAnd (eTru (eVar 2)) (eB (eBin eqD (eFz (eCallU r__law_take (aBor 0 (aVal (eC (.int 4)) (aNil))))) (eC (.int 0))))) (sRet (eSh (eC .none))) (sNext)) (sSeq (sIf (eB (eBin eqD (eVar 1) (eC (.str (Str.ofString "int"))))) (sRet (eSh (eFz (eCallU r__law_integer (aBor 0 (aNil)))))) (sNext)) (sSeq (sIf (eB (eBin eqD (eFz (eCallU r__law_take (aBor 0 (aVal (eC (.int 3)) (aNil))))) (eC (.int 0)))) (sRet (eSh (eBin addD (eBin idxD (eAll lstD (eCons (eC (.str (Str.ofString ""))) (eCons (eC (.str (Str.ofString "0"))) (eCons (eC (.str (Str.ofString "-"))) (eCons (eC (.str (Str.ofString "+"))) (eNil)))))) (eFz (eCallU r__law_take (aBor 0 (aVal (eC (.int 4)) (aNil)))))) (eAll strOfD (eCons (eFz (eCallU r__law_integer (aBor 0 (aNil)))) (eNil)))))) (sNext)) (sRet (eSh (eFz (eCallU r__law_text (aBor 0 (aNil))))))))
theorem d__law_value {k : Nat} {k__law_take : Nat} {r__law_take : List O → Rs O} {k__law_integer : Nat} {r__law_integer : List O → Rs O} {k__law_text : Nat} {r__law_text : List O → Rs O} {fa : Addr} {cdv : Value} {A : Around} {outer : List Env} {s : Shared} {H : Hp} {vs : List V} {E : XK} (T : Tx K mg) (G__law_take : FnG P w K mg base k__law_take "_law_take" bs__law_take r__law_take) (h__law_take : k__law_take ≤ k) (G__law_integer : FnG P w K mg base k__law_integer "_law_integer" bs__law_integer r__law_integer) (h__law_integer : k__law_integer ≤ k) (G__law_text : FnG P w K mg base k__law_text "_law_text" bs__law_text r__law_text) (h__law_text : k__law_text ≤ k) (hr : Room k (A.deeper (envOfC "_law_value" (defScope s__law_value) s.heap.objs.size fa cdv))) :
    PSs (cxOf (L2.CX P w) P w K mg base N__law_value "_law_value" (defScope s__law_value) fa cdv A outer s H E) (defBody s__law_value) (tS ⟨K, mg⟩ (fun c d _ H => E c d H) ⟨bs__law_value, vs⟩ (b__law_value r__law_take r__law_integer r__law_text)) :=
  psd_cons (psd_if (PW.pt (pwd_and (ptd_tru (pd_var 2)) (pwd_and1 (ptd_cmp (od_eq hr.units) (pd_fz (po_call G__law_take (hr.mono h__law_take) (by rfl) (takes_of rfl rfl rfl rfl) (paa_bor 0 (paa_val (pd_int) (paa_nil))) (aLen_bor (aLen_val (aLen_nil))))) (pd_int) (nomark _))))) (psd_one (psd_ret (po_sh (pd_non)))) (psd_nil)) (psd_cons (psd_if (ptd_cmp (od_eq hr.units) (pd_var 1) (pd_str) (nomark _)) (psd_one (psd_ret (po_sh (pd_fz (po_call G__law_integer (hr.mono h__law_integer) (by rfl) (takes_of rfl rfl rfl rfl) (paa_bor 0 (paa_nil)) (aLen_bor (aLen_nil))))))) (psd_nil)) (psd_cons (psd_if (ptd_cmp (od_eq hr.units) (pd_fz (po_call G__law_take (hr.mono h__law_take) (by rfl) (takes_of rfl rfl rfl rfl) (paa_bor 0 (paa_val (pd_int) (paa_nil))) (aLen_bor (aLen_val (aLen_nil))))) (pd_int) (nomark _)) (psd_one (psd_ret (po_sh (pd_bin od_add (pd_ix (hu_of hr) (pd_lst (pad_cons (pd_str) (pad_cons (pd_str) (pad_cons (pd_str) (pad_cons (pd_str) (pad_nil)))))) (pd_fz (po_call G__law_take (hr.mono h__law_take) (by rfl) (takes_of rfl rfl rfl rfl) (paa_bor 0 (paa_val (pd_int) (paa_nil))) (aLen_bor (aLen_val (aLen_nil))))) (fun _ _ => rfl)) (pd_callTy cd_str (by rfl) T.n_str (by decide +kernel) (pad_cons (pd_fz (po_call G__law_integer (hr.mono h__law_integer) (by rfl) (takes_of rfl rfl rfl rfl) (paa_bor 0 (paa_nil)) (aLen_bor (aLen_nil)))) (pad_nil))))))) (psd_nil)) (psd_one (psd_ret (po_sh (pd_fz (po_call G__law_text (hr.mono h__law_text) (by rfl) (takes_of rfl rfl rfl rfl) (paa_bor 0 (paa_nil)) (aLen_bor (aLen_nil)))))))))
theorem g__law_value {k : Nat} {k__law_take : Nat} {r__law_take : List O → Rs O} {k__law_integer : Nat} {r__law_integer : List O → Rs O} {k__law_text : Nat} {r__law_text : List O → Rs O} {fa : Addr} {fd : FuncData} {run : List O → Rs O} (T : Tx K mg) (G__law_take : FnG P w K mg base k__law_take "_law_take" bs__law_take r__law_take) (h__law_take : k__law_take ≤ k) (G__law_integer : FnG P w K mg base k__law_integer "_law_integer" bs__law_integer r__law_integer) (h__law_integer : k__law_integer ≤ k) (G__law_text : FnG P w K mg base k__law_text "_law_text" bs__law_text r__law_text) (h__law_text : k__law_text ≤ k) (F : Fun K "_law_value" "_law_value" s__law_value fa fd) (m : mg "_law_value" = some (.ref fa))
    (hrun : ∀ os, os.length = 3 → run os ≠ .bad → fnRun bs__law_value 3 (b__law_value r__law_take r__law_integer r__law_text) os = run os) : FnG P w K mg base (k + 1) "_law_value" bs__law_value run :=
  ⟨fa, fd, p__law_value, fnD F sc__law_value rfl rfl hrun (fun cdv A outer s H vs E hr => d__law_value T G__law_take h__law_take G__law_integer h__law_integer G__law_text h__law_text hr), m, F.kp, F.binds fun _ _ _ _ _ _ us hl => match us, hl with | [_, _, _], _ => rfl⟩
/-! ### _law_edits -/
abbrev s__law_edits : Stmt := topS 27
abbrev N__law_edits : List Str := ["tape", "found", "k", "key"]
abbrev p__law_edits : List Str := ["tape"]
theorem sc__law_edits : FnScope N__law_edits p__law_edits (defScope s__law_edits) := ⟨rfl, rfl, rfl, by decide +kernel, rfl, by decide +kernel, by decide +kernel⟩
def b__law_edits (r__law_take r__law_value : List O → Rs O) : En → Rs Fl := sSeq (sSet 1 (oLst (eNil))) (sSeq (sFor (eRng (eFz (eCallU r__law_take (aBor 0 (aVal (eC (.int 4)) (aNil)))))) (tgN 2) (sSeq (sSet 3 (eSh (eFz (eCallU r__law_value (aBor 0 (aVal (eBin idxD (eAll lstD (eCons (eC (.str (Str.ofString "int"))) (eCons (eC (.str (Str.ofString "text"))) (eNil)))) (eFz (eCallU r__law_take (aBor 0 (aVal (eC (.int 2)) (aNil)))))) (aVal (eC (.bool false)) (aNil)))))))) (sApp 1 (eBin idxD (eAll lstD (eCons (eAll tupD (eCons (eC (.str (Str.ofString "delete"))) (eCons (eC (.str (Str.ofString "t"))) (eCons (eVar 3) (eNil))))) (eCons (eAll tupD (eCons (eC (.str (Str.ofString "set"))) (eCons (eC (.str (Str.ofString "t"))) (eCons (eVar 3) (eCons (eC (.str (Str.ofString "a"))) (eCons (eC .none) (eNil))))))) (eCons (eAll tupD (eCons (eC (.str (Str.ofString "insert"))) (eCons (eC (.str (Str.ofString "u"))) (eCons (eAll tupD (eCons (eVar 3) (eCons (eC (.int 1)) (eNil)))) (eNil))))) (eNil))))) (eFz (eCallU r__law_take (aBor 0 (aVal (eC (.int 3)) (aNil))))))))) (sRet (eSh (eVar 1))))
theorem d__law_edits {k : Nat} {k__law_take : Nat} {r__law_take : List O → Rs O} {k__law_value : Nat} {r__law_value : List O → Rs O} {fa : Addr} {cdv : Value} {A : Around} {outer : List Env} {s : Shared} {H : Hp} {vs : List V} {E : XK} (T : Tx K mg) (G__law_take : FnG P w K mg base k__law_take "_law_take" bs__law_take r__law_take) (h__law_take : k__law_take ≤ k) (G__law_value : FnG P w K mg base k__law_value "_law_value" bs__law_value r__law_value) (h__law_value : k__law_value ≤ k) (hr : Room k (A.deeper (envOfC "_law_edits" (defScope s__law_edits) s.heap.objs.size fa cdv))) :
    PSs (cxOf (L2.CX P w) P w K mg base N__law_edits "_law_edits" (defScope s__law_edits) fa cdv A outer s H E) (defBody s__law_edits) (tS ⟨K, mg⟩ (fun c d _ H => E c d H) ⟨bs__law_edits, vs⟩ (b__law_edits r__law_take r__law_value)) :=
  psd_cons (psd_set (i := 1) sc__law_edits.nd (by first | exact Or.inl rfl | exact Or.inr rfl) (po_lst (pad_nil)) (fun q => nomatch q)) (psd_cons (psd_for (passes_of rfl) rfl (pid_rng (by rfl) T.n_range (pd_fz (po_call G__law_take (hr.mono h__law_take) (by rfl) (takes_of rfl rfl rfl rfl) (paa_bor 0 (paa_val (pd_int) (paa_nil))) (aLen_bor (aLen_val (aLen_nil)))))) (pgd_name (i := 2) (ix := [2]) sc__law_edits.nd (by first | exact Or.inl rfl | exact Or.inr rfl) (fun q => nomatch q) (by decide)) (psd_cons (psd_set (i := 3) sc__law_edits.nd (by first | exact Or.inl rfl | exact Or.inr rfl) (po_sh (pd_fz (po_call G__law_value (hr.mono h__law_value) (by rfl) (takes_of rfl rfl rfl rfl) (paa_bor 0 (paa_val (pd_ix (hu_of hr) (pd_lst (pad_cons (pd_str) (pad_cons (pd_str) (pad_nil)))) (pd_fz (po_call G__law_take (hr.mono h__law_take) (by rfl) (takes_of rfl rfl rfl rfl) (paa_bor 0 (paa_val (pd_int) (paa_nil))) (aLen_bor (aLen_val (aLen_nil))))) (fun _ _ => rfl)) (paa_val (pd_bl) (paa_nil)))) (aLen_bor (aLen_val (aLen_val (aLen_nil))))))) (fun q => nomatch q)) (psd_one (psd_app 1 (pd_ix (hu_of hr) (pd_lst (pad_cons (pd_tup (pad_cons (pd_str) (pad_cons (pd_str) (pad_cons (pd_var 3) (pad_nil))))) (pad_cons (pd_tup (pad_cons (pd_str) (pad_cons (pd_str) (pad_cons (pd_var 3) (pad_cons (pd_str) (pad_cons (pd_non) (pad_nil))))))) (pad_cons (pd_tup (pad_cons (pd_str) (pad_cons (pd_str) (pad_cons (pd_tup (pad_cons (pd_var 3) (pad_cons (pd_int) (pad_nil)))) (pad_nil))))) (pad_nil))))) (pd_fz (po_call G__law_take (hr.mono h__law_take) (by rfl) (takes_of rfl rfl rfl rfl) (paa_bor 0 (paa_val (pd_int) (paa_nil))) (aLen_bor (aLen_val (aLen_nil))))) (fun _ _ => rfl)))))) (psd_one (psd_ret (po_sh (pd_var 1)))))
theorem g__law_edits {k : Nat} {k__law_take : Nat} {r__law_take : List O → Rs O} {k__law_value : Nat} {r__law_value : List O → Rs O} {fa : Addr} {fd : FuncData} {run : List O → Rs O} (T : Tx K mg) (G__law_take : FnG P w K mg base k__law_take "_law_take" bs__law_take r__law_take) (h__law_take : k__law_take ≤ k) (G__law_value : FnG P w K mg base k__law_value "_law_value" bs__law_value r__law_value) (h__law_value : k__law_value ≤ k) (F : Fun K "_law_edits" "_law_edits" s__law_edits fa fd) (m : mg "_law_edits" = some (.ref fa))
    (hrun : ∀ os, os.length = 1 → run os ≠ .bad → fnRun bs__law_edits 4 (b__law_edits r__law_take r__law_value) os = run os) : FnG P w K mg base (k + 1) "_law_edits" bs__law_edits run :=
  ⟨fa, fd, p__law_edits, fnD F sc__law_edits rfl rfl hrun (fun cdv A outer s H vs E hr => d__law_edits T G__law_take h__law_take G__law_value h__law_value hr), m, F.kp, F.binds fun _ _ _ _ _ _ us hl => match us, hl with | [_], _ => rfl⟩
/-! ### _law_seal -/
abbrev s__law_seal : Stmt := topS 28
abbrev N__law_seal : List Str := ["before", "entry", "byte"]
abbrev p__law_seal : List Str := ["before", "entry"]
theorem sc__law_seal : FnScope N__law_seal p__law_seal (defScope s__law_seal) := ⟨rfl, rfl, rfl, by decide +kernel, rfl, by decide +kernel, by decide +kernel⟩
def b__law_seal (r_pack : List O → Rs O) : En → Rs Fl := sSeq (sFor (eSeq (eFz (eCallU r_pack (aVal (eSl (eVar 1) (ret none) (ePart (eC (.int 3)))) (aNil))))) (tgN 2) (sSet 0 (eSh (eBin modD (eAll intD (eCons (eBin addD (eBin mulD (eC (.int 257)) (eVar 0)) (eVar 2)) (eNil))) (eC (.int 999983)))))) (sRet (eSh (eVar 0)))
theorem d__law_seal {k : Nat} {k_pack : Nat} {r_pack : List O → Rs O} {fa : Addr} {cdv : Value} {A : Around} {outer : List Env} {s : Shared} {H : Hp} {vs : List V} {E : XK} (T : Tx K mg) (G_pack : FnG P w K mg base k_pack "pack" bs_pack r_pack) (h_pack : k_pack ≤ k) (hr : Room k (A.deeper (envOfC "_law_seal" (defScope s__law_seal) s.heap.objs.size fa cdv))) :
    PSs (cxOf (L2.CX P w) P w K mg base N__law_seal "_law_seal" (defScope s__law_seal) fa cdv A outer s H E) (defBody s__law_seal) (tS ⟨K, mg⟩ (fun c d _ H => E c d H) ⟨bs__law_seal, vs⟩ (b__law_seal r_pack)) :=
  psd_cons (psd_for (passes_of rfl) rfl (pid_seq (pd_fz (po_call G_pack (hr.mono h_pack) (by rfl) (takes_of rfl rfl rfl rfl) (paa_val (pd_sl (pd_var 1) (pod_none) (pod_some (pd_int))) (paa_nil)) (aLen_val (aLen_nil))))) (pgd_name (i := 2) (ix := [2]) sc__law_seal.nd (by first | exact Or.inl rfl | exact Or.inr rfl) (fun q => nomatch q) (by decide)) (psd_one (psd_set (i := 0) sc__law_seal.nd (by first | exact Or.inl rfl | exact Or.inr rfl) (po_sh (pd_bin od_mod (pd_callTy cd_int (by rfl) T.n_int (by decide +kernel) (pad_cons (pd_bin od_add (pd_bin od_mul (pd_int) (pd_var 0)) (pd_var 2)) (pad_nil))) (pd_int))) (fun q => nomatch q)))) (psd_one (psd_ret (po_sh (pd_var 0))))
theorem g__law_seal {k : Nat} {k_pack : Nat} {r_pack : List O → Rs O} {fa : Addr} {fd : FuncData} {run : List O → Rs O} (T : Tx K mg) (G_pack : FnG P w K mg base k_pack "pack" bs_pack r_pack) (h_pack : k_pack ≤ k) (F : Fun K "_law_seal" "_law_seal" s__law_seal fa fd) (m : mg "_law_seal" = some (.ref fa))
    (hrun : ∀ os, os.length = 2 → run os ≠ .bad → fnRun bs__law_seal 3 (b__law_seal r_pack) os = run os) : FnG P w K mg base (k + 1) "_law_seal" bs__law_seal run :=
  ⟨fa, fd, p__law_seal, fnD F sc__law_seal rfl rfl hrun (fun cdv A outer s H vs E hr => d__law_seal T G_pack h_pack hr), m, F.kp, F.binds fun _ _ _ _ _ _ us hl => match us, hl with | [_, _], _ => rfl⟩
/-! ### _law_break -/
abbrev s__law_break : Stmt := topS 29
abbrev N__law_break : List Str := ["log", "before", "k", "due"]
abbrev p__law_break : List Str := ["log"]
theorem sc__law_break : FnScope N__law_break p__law_break (defScope s__law_break) := ⟨rfl, rfl, rfl, by decide +kernel, rfl, by decide +kernel, by decide +kernel⟩
def b__law_break (r__law_seal : List O → Rs O) : En → Rs Fl := sSeq (sSet 1 (eSh (eC (.int 17)))) (sSeq (sFor (eRng (eAll lenD (eCons (eVar 0) (eNil)))) (tgN 2) (sSeq (sSet 3 (eSh (eFz (eCallU r__law_seal (aVal (eVar 1) (aVal (eSub 0 (eVar 2)) (aNil))))))) (sSeq (sIf (eOr (eB (eBin neD (eBin idxD (eSub 0 (eVar 2)) (eC (.int 0))) (eVar 2))) (eB (eBin neD (eBin idxD (eSub 0 (eVar 2)) (eC (.int 3))) (eVar 3)))) (sRet (eSh (eVar 2))) (sNext)) (sSet 1 (eSh (eVar 3)))))) (sRet (eSh (eC .none))))
theorem d__law_break {k : Nat} {k__law_seal : Nat} {r__law_seal : List O → Rs O} {fa : Addr} {cdv : Value} {A : Around} {outer : List Env} {s : Shared} {H : Hp} {vs : List V} {E : XK} (T : Tx K mg) (G__law_seal : FnG P w K mg base k__law_seal "_law_seal" bs__law_seal r__law_seal) (h__law_seal : k__law_seal ≤ k) (hr : Room k (A.deeper (envOfC "_law_break" (defScope s__law_break) s.heap.objs.size fa cdv))) :
    PSs (cxOf (L2.CX P w) P w K mg base N__law_break "_law_break" (defScope s__law_break) fa cdv A outer s H E) (defBody s__law_break) (tS ⟨K, mg⟩ (fun c d _ H => E c d H) ⟨bs__law_break, vs⟩ (b__law_break r__law_seal)) :=
  psd_cons (psd_set (i := 1) sc__law_break.nd (by first | exact Or.inl rfl | exact Or.inr rfl) (po_sh (pd_int)) (fun q => nomatch q)) (psd_cons (psd_for (passes_of rfl) rfl (pid_rng (by rfl) T.n_range (pd_callB cd_len (by rfl) T.n_len (by decide +kernel) (pad_cons (pd_var 0) (pad_nil)))) (pgd_name (i := 2) (ix := [2]) sc__law_break.nd (by first | exact Or.inl rfl | exact Or.inr rfl) (fun q => nomatch q) (by decide)) (psd_cons (psd_set (i := 3) sc__law_break.nd (by first | exact Or.inl rfl | exact Or.inr rfl) (po_sh (pd_fz (po_call G__law_seal (hr.mono h__law_seal) (by rfl) (takes_of rfl rfl rfl rfl) (paa_val (pd_var 1) (paa_val (pd_sub (hu_of hr) 0 (pd_var 2) (fun _ _ => rfl)) (paa_nil))) (aLen_val (aLen_val (aLen_nil)))))) (fun q => nomatch q)) (psd_cons (psd_if (PW.pt (pwd_or (ptd_cmp (od_ne hr.units) (pd_ix (hu_of hr) (pd_sub (hu_of hr) 0 (pd_var 2) (fun _ _ => rfl)) (pd_int) (fun _ _ => rfl)) (pd_var 2) (nomark _)) (pwd_or1 (ptd_cmp (od_ne hr.units) (pd_ix (hu_of hr) (pd_sub (hu_of hr) 0 (pd_var 2) (fun _ _ => rfl)) (pd_int) (fun _ _ => rfl)) (pd_var 3) (nomark _))))) (psd_one (psd_ret (po_sh (pd_var 2)))) (psd_nil)) (psd_one (psd_set (i := 1) sc__law_break.nd (by first | exact Or.inl rfl | exact Or.inr rfl) (po_sh (pd_var 3)) (fun q => nomatch q)))))) (psd_one (psd_ret (po_sh (pd_non)))))
theorem g__law_break {k : Nat} {k__law_seal : Nat} {r__law_seal : List O → Rs O} {fa : Addr} {fd : FuncData} {run : List O → Rs O} (T : Tx K mg) (G__law_seal : FnG P w K mg base k__law_seal "_law_seal" bs__law_seal r__law_seal) (h__law_seal : k__law_seal ≤ k) (F : Fun K "_law_break" "_law_break" s__law_break fa fd) (m : mg "_law_break" = some (.ref fa))
    (hrun : ∀ os, os.length = 1 → run os ≠ .bad → fnRun bs__law_break 4 (b__law_break r__law_seal) os = run os) : FnG P w K mg base (k + 1) "_law_break" bs__law_break run :=
  ⟨fa, fd, p__law_break, fnD F sc__law_break rfl rfl hrun (fun cdv A outer s H vs E hr => d__law_break T G__law_seal h__law_seal hr), m, F.kp, F.binds fun _ _ _ _ _ _ us hl => match us, hl with | [_], _ => rfl⟩
/-! ### _law_spoilt -/
abbrev s__law_spoilt : Stmt := topS 30
abbrev N__law_spoilt : List Str := ["tape", "log", "kind", "at", "number", "version", "edits", "seal", "one", "due"]
abbrev p__law_spoilt : List Str := ["tape", "log"]
theorem sc__law_spoilt : FnScope N__law_spoilt p__law_spoilt (defScope s__law_spoilt) := ⟨rfl, rfl, rfl, by decide +kernel, rfl, by decide +kernel, by decide +kernel⟩
def b__law_spoilt (r__law_take r__law_seal : List O → Rs O) : En → Rs Fl := sSeq (sSet 2 (eSh (eFz (eCallU r__law_take (aBor 0 (aVal (eC (.int 7)) (aNil))))))) (sSeq (sSet 3 (eSh (eFz (eCallU r__law_take (aBor 0 (aVal (eAll lenD (eCons (eVar 1) (eNil))) (aNil))))))) (sSeq (sAsg (eSub 1 (eVar 3)) (tgT 4 [tgN 4, tgN 5, tgN 6, tgN 7])) (sSeq (sSet 8 (eSh (eAll lstD (eCons (eAll tupD (eCons (eBin addD (eVar 4) (eC (.int 1))) (eCons (eVar 5) (eCons (eVar 6) (eCons (eVar 7) (eNil)))))) (eCons (eAll tupD (eCons (eVar 4) (eCons (eBin addD (eVar 5) (eC (.int 1))) (eCons (eVar 6) (eCons (eVar 7) (eNil)))))) (eCons (eAll tupD (eCons (eVar 4) (eCons (eVar 5) (eCons (eBin addD (eVar 6) (eAll tupD (eCons (eAll tupD (eCons (eC (.str (Str.ofString "delete"))) (eCons (eC (.str (Str.ofString "t"))) (eCons (eC (.int 1)) (eNil))))) (eNil)))) (eCons (eVar 7) (eNil)))))) (eCons (eAll tupD (eCons (eVar 4) (eCons (eVar 5) (eCons (eVar 6) (eCons (eBin modD (eAll intD (eCons (eBin addD (eVar 7) (eC (.int 1))) (eNil))) (eC (.int 999983))) (eNil)))))) (eCons (eAll tupD (eCons (eVar 4) (eCons (eVar 5) (eCons (eVar 6) (eCons (eUn negD (eVar 7)) (eNil)))))) (eNil))))))))) (sSeq (sIf (eB (eBin ltD (eVar 2) (eC (.int 5)))) (sRet (eSh (eBin addD (eBin addD (eSl (eVar 1) (ret none) (ePart (eVar 3))) (eAll tupD (eCons (eSub 8 (eVar 2)) (eNil)))) (eSl (eVar 1) (ePart (eBin addD (eVar 3) (eC (.int 1)))) (ret none))))) (sNext)) (sSeq (sIf (eAnd (eB (eBin eqD (eVar 2) (eC (.int 5)))) (eB (eBin eqD (eFz (eCallU r__law_take (aBor 0 (aVal (eC (.int 2)) (aNil))))) (eC (.int 0))))) (sSeq (sSet 9 (eSh (eFz (eCallU r__law_seal (aVal (eIf (eB (eBin eqD (eVar 3) (eC (.int 0)))) (eC (.int 17)) (eBin idxD (eSub 1 (eBin subD (eVar 3) (eC (.int 1)))) (eC (.int 3)))) (aVal (eAll tupD (eCons (eBin addD (eVar 4) (eC (.int 1))) (eCons (eVar 5) (eCons (eVar 6) (eNil))))) (aNil))))))) (sRet (eSh (eBin addD (eSl (eVar 1) (ret none) (ePart (eVar 3))) (eAll tupD (eCons (eAll tupD (eCons (eBin addD (eVar 4) (eC (.int 1))) (eCons (eVar 5) (eCons (eVar 6) (eCons (eVar 9) (eNil)))))) (eNil))))))) (sNext)) (sSeq (sIf (eB (eBin eqD (eVar 2) (eC (.int 5)))) (sRet (eSh (eBin addD (eSl (eVar 1) (ret none) (ePart (eVar 3))) (eSl (eVar 1) (ePart (eBin addD (eVar 3) (eC (.int 1)))) (ret none))))) (sNext)) (sRet (eSh (eBin addD (eBin addD (eSl (eVar 1) (ret none) (ePart (eVar 3))) (eSl (eVar 1) (ePart (eVar 3)) (ePart (eBin addD (eVar 3) (eC (.int 1)))))) (eSl (eVar 1) (ePart (eVar 3)) (ret none)))))))))))
theorem d__law_spoilt {k : Nat} {k__law_take : Nat} {r__law_take : List O → Rs O} {k__law_seal : Nat} {r__law_seal : List O → Rs O} {fa : Addr} {cdv : Value} {A : Around} {outer : List Env} {s : Shared} {H : Hp} {vs : List V} {E : XK} (T : Tx K mg) (G__law_take : FnG P w K mg base k__law_take "_law_take" bs__law_take r__law_take) (h__law_take : k__law_take ≤ k) (G__law_seal : FnG P w K mg base k__law_seal "_law_seal" bs__law_seal r__law_seal) (h__law_seal : k__law_seal ≤ k) (hr : Room k (A.deeper (envOfC "_law_spoilt" (defScope s__law_spoilt) s.heap.objs.size fa cdv))) :
    PSs (cxOf (L2.CX P w) P w K mg base N__law_spoilt "_law_spoilt" (defScope s__law_spoilt) fa cdv A outer s H E) (defBody s__law_spoilt) (tS ⟨K, mg⟩ (fun c d _ H => E c d H) ⟨bs__law_spoilt, vs⟩ (b__law_spoilt r__law_take r__law_seal)) :=
  psd_cons (psd_set (i := 2) sc__law_spoilt.nd (by first | exact Or.inl rfl | exact Or.inr rfl) (po_sh (pd_fz (po_call G__law_take (hr.mono h__law_take) (by rfl) (takes_of rfl rfl rfl rfl) (paa_bor 0 (paa_val (pd_int) (paa_nil))) (aLen_bor (aLen_val (aLen_nil)))))) (fun q => nomatch q)) (psd_cons (psd_set (i := 3) sc__law_spoilt.nd (by first | exact Or.inl rfl | exact Or.inr rfl) (po_sh (pd_fz (po_call G__law_take (hr.mono h__law_take) (by rfl) (takes_of rfl rfl rfl rfl) (paa_bor 0 (paa_val (pd_callB cd_len (by rfl) T.n_len (by decide +kernel) (pad_cons (pd_var 1) (pad_nil))) (paa_nil))) (aLen_bor (aLen_val (aLen_nil)))))) (fun q => nomatch q)) (psd_cons (psd_asg (pd_sub (hu_of hr) 1 (pd_var 3) (fun _ _ => rfl)) (pgd_tup rfl (pgsd_cons (pgd_name (i := 4) (ix := [4, 5, 6, 7]) sc__law_spoilt.nd (by first | exact Or.inl rfl | exact Or.inr rfl) (fun q => nomatch q) (by decide)) (pgsd_cons (pgd_name (i := 5) (ix := [4, 5, 6, 7]) sc__law_spoilt.nd (by first | exact Or.inl rfl | exact Or.inr rfl) (fun q => nomatch q) (by decide)) (pgsd_cons (pgd_name (i := 6) (ix := [4, 5, 6, 7]) sc__law_spoilt.nd (by first | exact Or.inl rfl | exact Or.inr rfl) (fun q => nomatch q) (by decide)) (pgsd_cons (pgd_name (i := 7) (ix := [4, 5, 6, 7]) sc__law_spoilt.nd (by first | exact Or.inl rfl | exact Or.inr rfl) (fun q => nomatch q) (by decide)) (pgsd_nil))))))) (psd_cons (psd_set (i := 8) sc__law_spoilt.nd (by first | exact Or.inl rfl | exact Or.inr rfl) (po_sh (pd_lst (pad_cons (pd_tup (pad_cons (pd_bin od_add (pd_var 4) (pd_int)) (pad_cons (pd_var 5) (pad_cons (pd_var 6) (pad_cons (pd_var 7) (pad_nil)))))) (pad_cons (pd_tup (pad_cons (pd_var 4) (pad_cons (pd_bin od_add (pd_var 5) (pd_int)) (pad_cons (pd_var 6) (pad_cons (pd_var 7) (pad_nil)))))) (pad_cons (pd_tup (pad_cons (pd_var 4) (pad_cons (pd_var 5) (pad_cons (pd_bin od_add (pd_var 6) (pd_tup (pad_cons (pd_tup (pad_cons (pd_str) (pad_cons (pd_str) (pad_cons (pd_int) (pad_nil))))) (pad_nil)))) (pad_cons (pd_var 7) (pad_nil)))))) (pad_cons (pd_tup (pad_cons (pd_var 4) (pad_cons (pd_var 5) (pad_cons (pd_var 6) (pad_cons (pd_bin od_mod (pd_callTy cd_int (by rfl) T.n_int (by decide +kernel) (pad_cons (pd_bin od_add (pd_var 7) (pd_int)) (pad_nil))) (pd_int)) (pad_nil)))))) (pad_cons (pd_tup (pad_cons (pd_var 4) (pad_cons (pd_var 5) (pad_cons (pd_var 6) (pad_cons (pd_un ud_neg (pd_var 7)) (pad_nil)))))) (pad_nil)))))))) (fun q => nomatch q)) (psd_cons (psd_if (ptd_cmp od_lt (pd_var 2) (pd_int) (nomark _)) (psd_one (psd_ret (po_sh (pd_bin od_add (pd_bin od_add (pd_sl (pd_var 1) (pod_none) (pod_some (pd_var 3))) (pd_tup (pad_cons (pd_sub (hu_of hr) 8 (pd_var 2) (fun _ _ => rfl)) (pad_nil)))) (pd_sl (pd_var 1) (pod_some (pd_bin od_add (pd_var 3) (pd_int))) (pod_none)))))) (psd_nil)) (psd_cons (psd_if (PW.pt (pwd_and (ptd_cmp (od_eq hr.units) (pd_var 2) (pd_int) (nomark _)) (pwd_and1 (ptd_cmp (od_eq hr.units) (pd_fz (po_call G__law_take (hr.mono h__law_take) (by rfl) (takes_of rfl rfl rfl rfl) (paa_bor 0 (paa_val (pd_int) (paa_nil))) (aLen_bor (aLen_val (aLen_nil))))) (pd_int) (nomark _))))) (psd_cons (psd_set (i := 9) sc__law_spoilt.nd (by first | exact Or.inl rfl | exact Or.inr rfl) (po_sh (pd_fz (po_call G__law_seal (hr.mono h__law_seal) (by rfl) (takes_of rfl rfl rfl rfl) (paa_val (pd_if (ptd_cmp (od_eq hr.units) (pd_var 3) (pd_int) (nomark _)) (pd_int) (pd_ix (hu_of hr) (pd_sub (hu_of hr) 1 (pd_bin od_sub (pd_var 3) (pd_int)) (fun _ _ => rfl)) (pd_int) (fun _ _ => rfl))) (paa_val (pd_tup (pad_cons (pd_bin od_add (pd_var 4) (pd_int)) (pad_cons (pd_var 5) (pad_cons (pd_var 6) (pad_nil))))) (paa_nil))) (aLen_val (aLen_val (aLen_nil)))))) (fun q => nomatch q)) (psd_one (psd_ret (po_sh (pd_bin od_add (pd_sl (pd_var 1) (pod_none) (pod_some (pd_var 3))) (pd_tup (pad_cons (pd_tup (pad_cons (pd_bin od_add (pd_var 4) (pd_int)) (pad_cons (pd_var 5) (pad_cons (pd_var 6) (pad_cons (pd_var 9) (pad_nil)))))) (pad_nil)))))))) (psd_nil)) (psd_cons (psd_if (ptd_cmp (od_eq hr.units) (pd_var 2) (pd_int) (nomark _)) (psd_one (psd_ret (po_sh (pd_bin od_add (pd_sl (pd_var 1) (pod_none) (pod_some (pd_var 3))) (pd_sl (pd_var 1) (pod_some (pd_bin od_add (pd_var 3) (pd_int))) (pod_none)))))) (psd_nil)) (psd_one (psd_ret (po_sh (pd_bin od_add (pd_bin od_add (pd_sl (pd_var 1) (pod_none) (pod_some (pd_var 3))) (pd_sl (pd_var 1) (pod_some (pd_var 3)) (pod_some (pd_bin od_add (pd_var 3) (pd_int))))) (pd_sl (pd_var 1) (pod_some (pd_var 3)) (pod_none))))))))))))
theorem g__law_spoilt {k : Nat} {k__law_take : Nat} {r__law_take : List O → Rs O} {k__law_seal : Nat} {r__law_seal : List O → Rs O} {fa : Addr} {fd : FuncData} {run : List O → Rs O} (T : Tx K mg) (G__law_take : FnG P w K mg base k__law_take "_law_take" bs__law_take r__law_take) (h__law_take : k__law_take ≤ k) (G__law_seal : FnG P w K mg base k__law_seal "_law_seal" bs__law_seal r__law_seal) (h__law_seal : k__law_seal ≤ k) (F : Fun K "_law_spoilt" "_law_spoilt" s__law_spoilt fa fd) (m : mg "_law_spoilt" = some (.ref fa))
    (hrun : ∀ os, os.length = 2 → run os ≠ .bad → fnRun bs__law_spoilt 10 (b__law_spoilt r__law_take r__law_seal) os = run os) : FnG P w K mg base (k + 1) "_law_spoilt" bs__law_spoilt run :=
  ⟨fa, fd, p__law_spoilt, fnD F sc__law_spoilt rfl rfl hrun (fun cdv A outer s H vs E hr => d__law_spoilt T G__law_take h__law_take G__law_seal h__law_seal hr), m, F.kp, F.binds fun _ _ _ _ _ _ us hl => match us, hl with | [_, _], _ => rfl⟩
/-! ### law -/
abbrev s_law : Stmt := topS 31
abbrev N_law : List Str := ["script", "tape", "writes", "k", "log", "due", "before", "wrong"]
abbrev p_law : List Str := ["script"]
theorem sc_law : FnScope N_law p_law (defScope s_law) := ⟨rfl, rfl, rfl, by decide +kernel, rfl, by decide +kernel, by decide +kernel⟩
def b_law (r__law_tape r__law_take r__law_edits r_sealed r__law_seal r__law_same r_first_break r__law_spoilt r__law_break : List O → Rs O) : En → Rs Fl := sSeq (sSet 1 (eCallU r__law_tape (aBor 0 (aNil)))) (sSeq (sSet 2 (oComp (eRng (eBin addD (eC (.int 1)) (eFz (eCallU r__law_take (aBor 1 (aVal (eC (.int 6)) (aNil))))))) (tgN 3) [3] (ret true) (eAll tupD (eCons (eFz (eCallU r__law_take (aBor 1 (aVal (eC (.int 4)) (aNil))))) (eCons (eFz (eCallU r__law_edits (aBor 1 (aNil)))) (eNil)))))) (sSeq (sSet 4 (eSh (eFz (eCallU r_sealed (aVal (eVar 2) (aNil)))))) (sSeq (sSet 5 (oLst (eNil))) (sSeq (sSet 6 (eSh (eC (.int 17)))) (sSeq (sFor (eRng (eAll lenD (eCons (eVar 2) (eNil)))) (tgN 3) (sSeq (sSet 6 (eSh (eFz (eCallU r__law_seal (aVal (eVar 6) (aVal (eAll tupD (eCons (eVar 3) (eCons (eBin idxD (eSub 2 (eVar 3)) (eC (.int 0))) (eCons (eAll tupOfD (eCons (eBin idxD (eSub 2 (eVar 3)) (eC (.int 1))) (eNil))) (eNil))))) (aNil))))))) (sApp 5 (eAll tupD (eCons (eVar 3) (eCons (eBin idxD (eSub 2 (eVar 3)) (eC (.int 0))) (eCons (eAll tupOfD (eCons (eBin idxD (eSub 2 (eVar 3)) (eC (.int 1))) (eNil))) (eCons (eVar 6) (eNil))))))))) (sSeq (sIf (eOr (eNot (eB (eFz (eCallU r__law_same (aVal (eVar 4) (aVal (eAll tupOfD (eCons (eVar 5) (eNil))) (aNil))))))) (eOr (eNNo (eFz (eCallU r_first_break (aVal (eVar 4) (aNil))))) (eOr (eB (eBin neD (eFz (eCallU r_sealed (aVal (eAll lstD (eNil)) (aNil)))) (eAll tupD (eNil)))) (eNNo (eFz (eCallU r_first_break (aVal (eAll tupD (eNil)) (aNil)))))))) (sRet (eSh (eC (.bool false)))) (sNext)) (sSeq (sFor (eRng (eC (.int 4))) (tgN 3) (sSeq (sSet 7 (eSh (eFz (eCallU r__law_spoilt (aBor 1 (aVal (eVar 4) (aNil))))))) (sIf (eNot (eB (eFz (eCallU r__law_same (aVal (eFz (eCallU r_first_break (aVal (eVar 7) (aNil)))) (aVal (eFz (eCallU r__law_break (aVal (eVar 7) (aNil)))) (aNil))))))) (sRet (eSh (eC (.bool false)))) (sNext)))) (sRet (eSh (eC (.bool true)))))))))))
theorem d_law {k : Nat} {k__law_tape : Nat} {r__law_tape : List O → Rs O} {k__law_take : Nat} {r__law_take : List O → Rs O} {k__law_edits : Nat} {r__law_edits : List O → Rs O} {k_sealed : Nat} {r_sealed : List O → Rs O} {k__law_seal : Nat} {r__law_seal : List O → Rs O} {k__law_same : Nat} {r__law_same : List O → Rs O} {k_first_break : Nat} {r_first_break : List O → Rs O} {k__law_spoilt : Nat} {r__law_spoilt : List O → Rs O} {k__law_break : Nat} {r__law_break : List O → Rs O} {fa : Addr} {cdv : Value} {A : Around} {outer : List Env} {s : Shared} {H : Hp} {vs : List V} {E : XK} (T : Tx K mg) (G__law_tape : FnG P w K mg base k__law_tape "_law_tape" bs__law_tape r__law_tape) (h__law_tape : k__law_tape ≤ k) (G__law_take : FnG P w K mg base k__law_take "_law_take" bs__law_take r__law_take) (h__law_take : k__law_take ≤ k) (G__law_edits : FnG P w K mg base k__law_edits "_law_edits" bs__law_edits r__law_edits) (h__law_edits : k__law_edits ≤ k) (G_sealed : FnG P w K mg base k_sealed "sealed" bs_sealed r_sealed) (h_sealed : k_sealed ≤ k) (G__law_seal : FnG P w K mg base k__law_seal "_law_seal" bs__law_seal r__law_seal) (h__law_seal : k__law_seal ≤ k) (G__law_same : FnG P w K mg base k__law_same "_law_same" bs__law_same r__law_same) (h__law_same : k__law_same ≤ k) (G_first_break : FnG P w K mg base k_first_break "first_break" bs_first_break r_first_break) (h_first_break : k_first_break ≤ k) (G__law_spoilt : FnG P w K mg base k__law_spoilt "_law_spoilt" bs__law_spoilt r__law_spoilt) (h__law_spoilt : k__law_spoilt ≤ k) (G__law_break : FnG P w K mg base k__law_break "_law_break" bs__law_break r__law_break) (h__law_break : k__law_break ≤ k) (hr : Room k (A.deeper (envOfC "law" (defScope s_law) s.heap.objs.size fa cdv))) :
    PSs (cxOf (L2.CX P w) P w K mg base N_law "law" (defScope s_law) fa cdv A outer s H E) (defBody s_law) (tS ⟨K, mg⟩ (fun c d _ H => E c d H) ⟨bs_law, vs⟩ (b_law r__law_tape r__law_take r__law_edits r_sealed r__law_seal r__law_same r_first_break r__law_spoilt r__law_break)) :=
  psd_cons (psd_set (i := 1) sc_law.nd (by first | exact Or.inl rfl | exact Or.inr rfl) (po_call G__law_tape (hr.mono h__law_tape) (by rfl) (takes_of rfl rfl rfl rfl) (paa_bor 0 (paa_nil)) (aLen_bor (aLen_nil))) (fun q => nomatch q)) (psd_cons (psd_setLc (i := 2) (own := [("k", 3)]) rfl sc_law.nd rfl (fun q => nomatch q) (sw_true rfl rfl rfl (by decide +kernel)) (pid_rng (by rfl) T.n_range (pd_bin od_add (pd_int) (pd_fz (po_call G__law_take (hr.mono h__law_take) (by rfl) (takes_of rfl rfl rfl rfl) (paa_bor 1 (paa_val (pd_int) (paa_nil))) (aLen_bor (aLen_val (aLen_nil))))))) (blkOk_by (own := [("k", 3)]) (N := N_law) (sc := defScope s_law) (by decide +kernel)) (fun _ _ _ _ _ => pgd_name (i := 3) (ix := [3]) sc_law.nd (by first | exact Or.inl rfl | exact Or.inr rfl) (fun q => nomatch q) (by decide)) (fun _ _ _ _ _ => ptsd_nil) (fun _ _ _ _ _ => pd_tup (pad_cons (pd_fz (po_call G__law_take (hr.mono h__law_take) (by rfl) takes0 (paa_bor 1 (paa_val (pd_int) (paa_nil))) (aLen_bor (aLen_val (aLen_nil))))) (pad_cons (pd_fz (po_call G__law_edits (hr.mono h__law_edits) (by rfl) takes0 (paa_bor 1 (paa_nil)) (aLen_bor (aLen_nil)))) (pad_nil))))) (psd_cons (psd_set (i := 4) sc_law.nd (by first | exact Or.inl rfl | exact Or.inr rfl) (po_sh (pd_fz (po_call G_sealed (hr.mono h_sealed) (by rfl) (takes_of rfl rfl rfl rfl) (paa_val (pd_var 2) (paa_nil)) (aLen_val (aLen_nil))))) (fun q => nomatch q)) (psd_cons (psd_set (i := 5) sc_law.nd (by first | exact Or.inl rfl | exact Or.inr rfl) (po_lst (pad_nil)) (fun q => nomatch q)) (psd_cons (psd_set (i := 6) sc_law.nd (by first | exact Or.inl rfl | exact Or.inr rfl) (po_sh (pd_int)) (fun q => nomatch q)) (psd_cons (psd_for (passes_of rfl) rfl (pid_rng (by rfl) T.n_range (pd_callB cd_len (by rfl) T.n_len (by decide +kernel) (pad_cons (pd_var 2) (pad_nil)))) (pgd_name (i := 3) (ix := [3]) sc_law.nd (by first | exact Or.inl rfl | exact Or.inr rfl) (fun q => nomatch q) (by decide)) (psd_cons (psd_set (i := 6) sc_law.nd (by first | exact Or.inl rfl | exact Or.inr rfl) (po_sh (pd_fz (po_call G__law_seal (hr.mono h__law_seal) (by rfl) (takes_of rfl rfl rfl rfl) (paa_val (pd_var 6) (paa_val (pd_tup (pad_cons (pd_var 3) (pad_cons (pd_ix (hu_of hr) (pd_sub (hu_of hr) 2 (pd_var 3) (fun _ _ => rfl)) (pd_int) (fun _ _ => rfl)) (pad_cons (pd_callTy cd_tuple (by rfl) T.n_tuple (by decide +kernel) (pad_cons (pd_ix (hu_of hr) (pd_sub (hu_of hr) 2 (pd_var 3) (fun _ _ => rfl)) (pd_int) (fun _ _ => rfl)) (pad_nil))) (pad_nil))))) (paa_nil))) (aLen_val (aLen_val (aLen_nil)))))) (fun q => nomatch q)) (psd_one (psd_app 5 (pd_tup (pad_cons (pd_var 3) (pad_cons (pd_ix (hu_of hr) (pd_sub (hu_of hr) 2 (pd_var 3) (fun _ _ => rfl)) (pd_int) (fun _ _ => rfl)) (pad_cons (pd_callTy cd_tuple (by rfl) T.n_tuple (by decide +kernel) (pad_cons (pd_ix (hu_of hr) (pd_sub (hu_of hr) 2 (pd_var 3) (fun _ _ => rfl)) (pd_int) (fun _ _ => rfl)) (pad_nil))) (pad_cons (pd_var 6) (pad_nil)))))))))) (psd_cons (psd_if (PW.pt (pwd_or (ptd_not (ptd_val (pd_fz (po_call G__law_same (hr.mono h__law_same) (by rfl) (takes_of rfl rfl rfl rfl) (paa_val (pd_var 4) (paa_val (pd_callTy cd_tuple (by rfl) T.n_tuple (by decide +kernel) (pad_cons (pd_var 5) (pad_nil))) (paa_nil))) (aLen_val (aLen_val (aLen_nil))))))) (pwd_or (ptd_notN (pd_fz (po_call G_first_break (hr.mono h_first_break) (by rfl) (takes_of rfl rfl rfl rfl) (paa_val (pd_var 4) (paa_nil)) (aLen_val (aLen_nil))))) (pwd_or (ptd_cmp (od_ne hr.units) (pd_fz (po_call G_sealed (hr.mono h_sealed) (by rfl) (takes_of rfl rfl rfl rfl) (paa_val (pd_lst (pad_nil)) (paa_nil)) (aLen_val (aLen_nil)))) (pd_tup (pad_nil)) (nomark _)) (pwd_or1 (ptd_notN (pd_fz (po_call G_first_break (hr.mono h_first_break) (by rfl) (takes_of rfl rfl rfl rfl) (paa_val (pd_tup (pad_nil)) (paa_nil)) (aLen_val (aLen_nil)))))))))) (psd_one (psd_ret (po_sh (pd_bl)))) (psd_nil)) (psd_cons (psd_for (passes_of rfl) rfl (pid_rng (by rfl) T.n_range (pd_int)) (pgd_name (i := 3) (ix := [3]) sc_law.nd (by first | exact Or.inl rfl | exact Or.inr rfl) (fun q => nomatch q) (by decide)) (psd_cons (psd_set (i := 7) sc_law.nd (by first | exact Or.inl rfl | exact Or.inr rfl) (po_sh (pd_fz (po_call G__law_spoilt (hr.mono h__law_spoilt) (by rfl) (takes_of rfl rfl rfl rfl) (paa_bor 1 (paa_val (pd_var 4) (paa_nil))) (aLen_bor (aLen_val (aLen_nil)))))) (fun q => nomatch q)) (psd_one (psd_if (ptd_not (ptd_val (pd_fz (po_call G__law_same (hr.mono h__law_same) (by rfl) (takes_of rfl rfl rfl rfl) (paa_val (pd_fz (po_call G_first_break (hr.mono h_first_break) (by rfl) (takes_of rfl rfl rfl rfl) (paa_val (pd_var 7) (paa_nil)) (aLen_val (aLen_nil)))) (paa_val (pd_fz (po_call G__law_break (hr.mono h__law_break) (by rfl) (takes_of rfl rfl rfl rfl) (paa_val (pd_var 7) (paa_nil)) (aLen_val (aLen_nil)))) (paa_nil))) (aLen_val (aLen_val (aLen_nil))))))) (psd_one (psd_ret (po_sh (pd_bl)))) (psd_nil))))) (psd_one (psd_ret (po_sh (pd_bl)))))))))))
theorem g_law {k : Nat} {k__law_tape : Nat} {r__law_tape : List O → Rs O} {k__law_take : Nat} {r__law_take : List O → Rs O} {k__law_edits : Nat} {r__law_edits : List O → Rs O} {k_sealed : Nat} {r_sealed : List O → Rs O} {k__law_seal : Nat} {r__law_seal : List O → Rs O} {k__law_same : Nat} {r__law_same : List O → Rs O} {k_first_break : Nat} {r_first_break : List O → Rs O} {k__law_spoilt : Nat} {r__law_spoilt : List O → Rs O} {k__law_break : Nat} {r__law_break : List O → Rs O} {fa : Addr} {fd : FuncData} {run : List O → Rs O} (T : Tx K mg) (G__law_tape : FnG P w K mg base k__law_tape "_law_tape" bs__law_tape r__law_tape) (h__law_tape : k__law_tape ≤ k) (G__law_take : FnG P w K mg base k__law_take "_law_take" bs__law_take r__law_take) (h__law_take : k__law_take ≤ k) (G__law_edits : FnG P w K mg base k__law_edits "_law_edits" bs__law_edits r__law_edits) (h__law_edits : k__law_edits ≤ k) (G_sealed : FnG P w K mg base k_sealed "sealed" bs_sealed r_sealed) (h_sealed : k_sealed ≤ k) (G__law_seal : FnG P w K mg base k__law_seal "_law_seal" bs__law_seal r__law_seal) (h__law_seal : k__law_seal ≤ k) (G__law_same : FnG P w K mg base k__law_same "_law_same" bs__law_same r__law_same) (h__law_same : k__law_same ≤ k) (G_first_break : FnG P w K mg base k_first_break "first_break" bs_first_break r_first_break) (h_first_break : k_first_break ≤ k) (G__law_spoilt : FnG P w K mg base k__law_spoilt "_law_spoilt" bs__law_spoilt r__law_spoilt) (h__law_spoilt : k__law_spoilt ≤ k) (G__law_break : FnG P w K mg base k__law_break "_law_break" bs__law_break r__law_break) (h__law_break : k__law_break ≤ k) (F : Fun K "law" "law" s_law fa fd) (m : mg "law" = some (.ref fa))
    (hrun : ∀ os, os.length = 1 → run os ≠ .bad → fnRun bs_law 8 (b_law r__law_tape r__law_take r__law_edits r_sealed r__law_seal r__law_same r_first_break r__law_spoilt r__law_break) os = run os) : FnG P w K mg base (k + 1) "law" bs_law run :=
  ⟨fa, fd, p_law, fnD F sc_law rfl rfl hrun (fun cdv A outer s H vs E hr => d_law T G__law_tape h__law_tape G__law_take h__law_take G__law_edits h__law_edits G_sealed h_sealed G__law_seal h__law_seal G__law_same h__law_same G_first_break h_first_break G__law_spoilt h__law_spoilt G__law_break h__law_break hr), m, F.kp, F.binds fun _ _ _ _ _ _ us hl => match us, hl with | [_], _ => rfl⟩
end
end K86
set_option Elab.async false
set_option linter.all false
set_option maxRecDepth 100000
set_option maxHeartbeats 4000000
namespace K86
open PySem PySem.Spec PyProof.Rows L2 VH
theorem seq_ok {f g : En → Rs Fl} {env e : En} (h : f env = .ok .nx e) : sSeq f g env = g e := by unfold sSeq; rw [h]
theorem atI_in {α : Type} {xs : List α} {i : Nat} (h : i < xs.length) : atI xs (i : Int) = some xs[i] := atI_nat (List.getElem?_eq_getElem h)
def r_take : List O → Rs O := fnRun bs__law_take 4 b__law_take
theorem take_ok (T : Tape) {m : Int} (h : 0 < m) (hm : m.natAbs.log2 < 9000) : r_take [tapeO T, .sh (.int m)] = .ok (.sh (.int (takeT T m).1)) [some (tapeO (takeT T m).2), none] := by
  unfold r_take fnRun b__law_take takeT
  simp only [List.map_cons, List.map_nil, List.length_cons, List.length_nil, List.replicate, List.cons_append, List.nil_append]
  rw [seq_ok (e := [some (tapeO (preT T)), some (.sh (.int m)), none, none])]
  · generalize preT T = T
    unfold drawT
    by_cases hp : 0 < T.left
    · rw [if_pos hp]
      unfold tapeO
      simp only [sSeq, sIf, eAnd, eOr, eNot, eB, bnd, eBin, eUn, eSub, eC, VH.ret, lift, eVar, eSh, eFz, sSet, sRet, sPut, sAsg, tgN, tgT, tgSeq, eAll, eCons, eNil, eAndV, eOrV, eNotV, eOfB, eIf, eIsN, eNotN, eNN, eNNo, eTru, sDo, sApp, sExt, sNext, oLst, oAdd, oIf, oList, eMov, eSl, ePart, ixI, eCallU, aNil, aVal, aBor, takeA, putA, List.getElem?_cons_zero, List.getElem?_cons_succ, List.set_cons_zero, List.set_cons_succ, Nat.reduceSub, Nat.reduceAdd, Nat.reduceLT, Nat.reduceLeDiff, List.length_cons, List.length_nil, Option.bind, Option.map, VH.keyOf, O.fzb, fz, blD, VH.intD, VH.lenD, absD, VH.strOfD, VH.listOfD, tupOfD, ordD, tupD, lstD, eqD, neD, eqS, ltD, leD, gtD, geD, addD, subD, mulD, fdivD, modD, negD, idxD, strD, eM1, isN, vi_int, vi_bool, vi_str, vi_tuple, vi_list, vi_dict, truD, mask, List.map_cons, List.map_nil, List.replicate, List.cons_append, List.nil_append, if_true, if_false, Bool.false_eq_true, decide_true, decide_false, beq_self_eq_true, Bool.not_true, Bool.not_false, and_self, and_true, true_and, Bool.or_true, Bool.true_or, Bool.or_false, Bool.false_or, Bool.and_true, Bool.and_false, ne_eq, not_false_eq_true, not_true_eq_false, reduceCtorEq, lk_l, hp, h, hm, tk_len, pt_l]
    · rw [if_neg hp]
      unfold tapeO mixT
      have b1 := Int.emod_nonneg (T.seed * 48271 + (T.salt + 1) * 69621) (show (2147483647 : Int) ≠ 0 by decide)
      have b2 := Int.emod_lt_of_pos (T.seed * 48271 + (T.salt + 1) * 69621) (show (0 : Int) < 2147483647 by decide)
      have b3 : ((-(2 ^ 64) < (T.seed * 48271 + (T.salt + 1) * 69621) % 2147483647 ∧ (T.seed * 48271 + (T.salt + 1) * 69621) % 2147483647 < 2 ^ 64) ∨ (-(2 ^ 64) < (T.seed * 48271 + (T.salt + 1) * 69621) % 2147483647 ∧ (T.seed * 48271 + (T.salt + 1) * 69621) % 2147483647 < 2 ^ 64)) := .inl ⟨by omega, by omega⟩
      have c1 : ∀ x : Int, ((-(2 ^ 64) < x ∧ x < 2 ^ 64) ∨ (-(2 ^ 64) < (48271 : Int) ∧ (48271 : Int) < 2 ^ 64)) := fun x => .inr (by decide)
      have c2 : ∀ x : Int, ((-(2 ^ 64) < x ∧ x < 2 ^ 64) ∨ (-(2 ^ 64) < (69621 : Int) ∧ (69621 : Int) < 2 ^ 64)) := fun x => .inr (by decide)
      have c3 : ∀ x : Int, ((-(2 ^ 64) < x ∧ x < 2 ^ 64) ∨ (-(2 ^ 64) < (40692 : Int) ∧ (40692 : Int) < 2 ^ 64)) := fun x => .inr (by decide)
      have p1 : (0 : Int) < 2147483647 := by decide
      have p2 : (0 : Int) < 2147483399 := by decide
      simp only [sSeq, sIf, eAnd, eOr, eNot, eB, bnd, eBin, eUn, eSub, eC, VH.ret, lift, eVar, eSh, eFz, sSet, sRet, sPut, sAsg, tgN, tgT, tgSeq, eAll, eCons, eNil, eAndV, eOrV, eNotV, eOfB, eIf, eIsN, eNotN, eNN, eNNo, eTru, sDo, sApp, sExt, sNext, oLst, oAdd, oIf, oList, eMov, eSl, ePart, ixI, eCallU, aNil, aVal, aBor, takeA, putA, List.getElem?_cons_zero, List.getElem?_cons_succ, List.set_cons_zero, List.set_cons_succ, Nat.reduceSub, Nat.reduceAdd, Nat.reduceLT, Nat.reduceLeDiff, List.length_cons, List.length_nil, Option.bind, Option.map, VH.keyOf, O.fzb, fz, blD, VH.intD, VH.lenD, absD, VH.strOfD, VH.listOfD, tupOfD, ordD, tupD, lstD, eqD, neD, eqS, ltD, leD, gtD, geD, addD, subD, mulD, fdivD, modD, negD, idxD, strD, eM1, isN, vi_int, vi_bool, vi_str, vi_tuple, vi_list, vi_dict, truD, mask, List.map_cons, List.map_nil, List.replicate, List.cons_append, List.nil_append, if_true, if_false, Bool.false_eq_true, decide_true, decide_false, beq_self_eq_true, Bool.not_true, Bool.not_false, and_self, and_true, true_and, Bool.or_true, Bool.true_or, Bool.or_false, Bool.false_or, Bool.and_true, Bool.and_false, ne_eq, not_false_eq_true, not_true_eq_false, reduceCtorEq, lk_l, lk_x, lk_s, hp, h, hm, tk_len, pt_x, if_pos (c1 _), if_pos (c2 _), if_pos (c3 _), p1, p2, if_pos b3]
  · unfold preT
    by_cases h1 : T.left = 0
    · by_cases h2 : T.at_ < T.cells.length
      · rw [if_pos ⟨h1, h2⟩]
        unfold tapeO
        have e : T.cells.getD T.at_ 0 = T.cells[T.at_] := by simp [h2]
        simp only [sSeq, sIf, eAnd, eOr, eNot, eB, bnd, eBin, eUn, eSub, eC, VH.ret, lift, eVar, eSh, eFz, sSet, sRet, sPut, sAsg, tgN, tgT, tgSeq, eAll, eCons, eNil, eAndV, eOrV, eNotV, eOfB, eIf, eIsN, eNotN, eNN, eNNo, eTru, sDo, sApp, sExt, sNext, oLst, oAdd, oIf, oList, eMov, eSl, ePart, ixI, eCallU, aNil, aVal, aBor, takeA, putA, List.getElem?_cons_zero, List.getElem?_cons_succ, List.set_cons_zero, List.set_cons_succ, Nat.reduceSub, Nat.reduceAdd, Nat.reduceLT, Nat.reduceLeDiff, List.length_cons, List.length_nil, Option.bind, Option.map, VH.keyOf, O.fzb, fz, blD, VH.intD, VH.lenD, absD, VH.strOfD, VH.listOfD, tupOfD, ordD, tupD, lstD, eqD, neD, eqS, ltD, leD, gtD, geD, addD, subD, mulD, fdivD, modD, negD, idxD, strD, eM1, isN, vi_int, vi_bool, vi_str, vi_tuple, vi_list, vi_dict, truD, mask, List.map_cons, List.map_nil, List.replicate, List.cons_append, List.nil_append, if_true, if_false, Bool.false_eq_true, decide_true, decide_false, beq_self_eq_true, Bool.not_true, Bool.not_false, and_self, and_true, true_and, Bool.or_true, Bool.true_or, Bool.or_false, Bool.false_or, Bool.and_true, Bool.and_false, ne_eq, not_false_eq_true, not_true_eq_false, reduceCtorEq, lk_l, h1, h2, lk_a, lk_c, List.length_map, Int.ofNat_lt, atI_in, List.getElem_map, tk_len, pt_l, pt_a, e, Int.natCast_add, Int.natCast_one]
      · rw [if_neg fun q => h2 q.2]
        unfold tapeO
        simp only [sSeq, sIf, eAnd, eOr, eNot, eB, bnd, eBin, eUn, eSub, eC, VH.ret, lift, eVar, eSh, eFz, sSet, sRet, sPut, sAsg, tgN, tgT, tgSeq, eAll, eCons, eNil, eAndV, eOrV, eNotV, eOfB, eIf, eIsN, eNotN, eNN, eNNo, eTru, sDo, sApp, sExt, sNext, oLst, oAdd, oIf, oList, eMov, eSl, ePart, ixI, eCallU, aNil, aVal, aBor, takeA, putA, List.getElem?_cons_zero, List.getElem?_cons_succ, List.set_cons_zero, List.set_cons_succ, Nat.reduceSub, Nat.reduceAdd, Nat.reduceLT, Nat.reduceLeDiff, List.length_cons, List.length_nil, Option.bind, Option.map, VH.keyOf, O.fzb, fz, blD, VH.intD, VH.lenD, absD, VH.strOfD, VH.listOfD, tupOfD, ordD, tupD, lstD, eqD, neD, eqS, ltD, leD, gtD, geD, addD, subD, mulD, fdivD, modD, negD, idxD, strD, eM1, isN, vi_int, vi_bool, vi_str, vi_tuple, vi_list, vi_dict, truD, mask, List.map_cons, List.map_nil, List.replicate, List.cons_append, List.nil_append, if_true, if_false, Bool.false_eq_true, decide_true, decide_false, beq_self_eq_true, Bool.not_true, Bool.not_false, and_self, and_true, true_and, Bool.or_true, Bool.true_or, Bool.or_false, Bool.false_or, Bool.and_true, Bool.and_false, ne_eq, not_false_eq_true, not_true_eq_false, reduceCtorEq, lk_l, h1, h2, lk_a, lk_c, List.length_map, Int.ofNat_lt]
    · rw [if_neg fun q => h1 q.1]
      unfold tapeO
      have e : (T.left == 0) = false := by simp [h1]
      simp only [sSeq, sIf, eAnd, eOr, eNot, eB, bnd, eBin, eUn, eSub, eC, VH.ret, lift, eVar, eSh, eFz, sSet, sRet, sPut, sAsg, tgN, tgT, tgSeq, eAll, eCons, eNil, eAndV, eOrV, eNotV, eOfB, eIf, eIsN, eNotN, eNN, eNNo, eTru, sDo, sApp, sExt, sNext, oLst, oAdd, oIf, oList, eMov, eSl, ePart, ixI, eCallU, aNil, aVal, aBor, takeA, putA, List.getElem?_cons_zero, List.getElem?_cons_succ, List.set_cons_zero, List.set_cons_succ, Nat.reduceSub, Nat.reduceAdd, Nat.reduceLT, Nat.reduceLeDiff, List.length_cons, List.length_nil, Option.bind, Option.map, VH.keyOf, O.fzb, fz, blD, VH.intD, VH.lenD, absD, VH.strOfD, VH.listOfD, tupOfD, ordD, tupD, lstD, eqD, neD, eqS, ltD, leD, gtD, geD, addD, subD, mulD, fdivD, modD, negD, idxD, strD, eM1, isN, vi_int, vi_bool, vi_str, vi_tuple, vi_list, vi_dict, truD, mask, List.map_cons, List.map_nil, List.replicate, List.cons_append, List.nil_append, if_true, if_false, Bool.false_eq_true, decide_true, decide_false, beq_self_eq_true, Bool.not_true, Bool.not_false, and_self, and_true, true_and, Bool.or_true, Bool.true_or, Bool.or_false, Bool.false_or, Bool.and_true, Bool.and_false, ne_eq, not_false_eq_true, not_true_eq_false, reduceCtorEq, lk_l, e]
theorem take_ex (T : Tape) {m : Int} (h : 0 < m) (hm : m < 2 ^ 64) : ∃ r T', r_take [tapeO T, .sh (.int m)] = .ok (.sh (.int r)) [some (tapeO T'), none] ∧ 0 ≤ r ∧ r < m := by
  refine ⟨_, _, take_ok T h ?_, takeT_lo T h, takeT_hi T h⟩
  have h0 : m.natAbs ≠ 0 := by omega
  have : m.natAbs.log2 < 64 := (Nat.log2_lt h0).mpr (by omega)
  omega
end K86
set_option Elab.async false
set_option linter.all false
set_option maxRecDepth 100000
set_option maxHeartbeats 4000000
namespace K86
open PySem PySem.Spec PyProof.Rows L2 VH
theorem atI_mem {α : Type} {xs : List α} {r : Int} (h0 : 0 ≤ r) (h : r < xs.length) : ∃ d, d ∈ xs ∧ atI xs r = some d := by
  obtain ⟨n, rfl⟩ := Int.eq_ofNat_of_zero_le h0
  have hn : n < xs.length := by omega
  exact ⟨xs[n], List.getElem_mem hn, atI_in hn⟩
theorem line_big : 16000000 ≤ sizeLine := by rw [sizeLine_eq]; decide
theorem len_app (a b : Str) : (a ++ b).length = a.length + b.length := by
  show (a.cps ++ b.cps).size = _
  rw [Array.size_append]; rfl
def CA : Str := Str.ofString " !\"#$&'()*+,-./0123456789:;<=>?@ABCDEFGHIJKLMNOPQRSTUVWXYZ[\\]^"
def CB : Str := Str.ofString "_`abcdefghijklmnopqrstuvwxyz{|}~"
def CC : Str := Str.ofString "ab -07"
theorem CA_len : CA.length = 62 := by decide +kernel
theorem CB_len : CB.length = 32 := by decide +kernel
theorem CC_len : CC.length = 6 := by decide +kernel
def r_char : List O → Rs O := fnRun bs__law_char 2 (b__law_char r_take)
theorem char_ex (T : Tape) : ∃ c T', r_char [tapeO T] = .ok (.sh (.str ⟨#[c]⟩)) [some (tapeO T')] := by
  have hL := line_big
  obtain ⟨r, T1, e1, _, _⟩ := take_ex T (m := 3) (by decide) (by decide)
  have i1 : CA.length + CB.length ≤ sizeLine := by rw [CA_len, CB_len]; omega
  by_cases h : r = 0
  · obtain ⟨q, T2, e2, q0, q1⟩ := take_ex T1 (m := 94) (by decide) (by decide)
    have i2 : (CA ++ CB).length ≤ sizeLine := by rw [len_app]; exact i1
    obtain ⟨c, _, ec⟩ := atI_mem (xs := (CA ++ CB).cps.toList) q0 (by
      have := len_app CA CB
      rw [CA_len, CB_len] at this
      rw [Array.length_toList]
      show q < ((CA ++ CB).length : Int)
      omega)
    refine ⟨c, T2, ?_⟩
    unfold r_char fnRun b__law_char
    simp only [show Str.ofString " !\"#$&'()*+,-./0123456789:;<=>?@ABCDEFGHIJKLMNOPQRSTUVWXYZ[\\]^" = CA from rfl, show Str.ofString "_`abcdefghijklmnopqrstuvwxyz{|}~" = CB from rfl]
    simp only [sSeq, sIf, eAnd, eOr, eNot, eB, bnd, eBin, eUn, eSub, eC, VH.ret, lift, eVar, eSh, eFz, sSet, sRet, sPut, sAsg, tgN, tgT, tgSeq, eAll, eCons, eNil, eAndV, eOrV, eNotV, eOfB, eIf, eIsN, eNotN, eNN, eNNo, eTru, sDo, sApp, sExt, sNext, oLst, oAdd, oIf, oList, eMov, eSl, ePart, ixI, eCallU, aNil, aVal, aBor, takeA, putA, List.getElem?_cons_zero, List.getElem?_cons_succ, List.set_cons_zero, List.set_cons_succ, Nat.reduceSub, Nat.reduceAdd, Nat.reduceLT, Nat.reduceLeDiff, List.length_cons, List.length_nil, Option.bind, Option.map, VH.keyOf, O.fzb, fz, blD, VH.intD, VH.lenD, absD, VH.strOfD, VH.listOfD, tupOfD, ordD, tupD, lstD, eqD, neD, eqS, ltD, leD, gtD, geD, addD, subD, mulD, fdivD, modD, negD, idxD, strD, eM1, isN, vi_int, vi_bool, vi_str, vi_tuple, vi_list, vi_dict, truD, mask, List.map_cons, List.map_nil, List.replicate, List.cons_append, List.nil_append, if_true, if_false, Bool.false_eq_true, decide_true, decide_false, beq_self_eq_true, Bool.not_true, Bool.not_false, and_self, and_true, true_and, Bool.or_true, Bool.true_or, Bool.or_false, Bool.false_or, Bool.and_true, Bool.and_false, ne_eq, not_false_eq_true, not_true_eq_false, reduceCtorEq, e1, h, e2, if_pos i1, if_pos i2, ec]
  · obtain ⟨q, T2, e2, q0, q1⟩ := take_ex T1 (m := 6) (by decide) (by decide)
    have i2 : CC.length ≤ sizeLine := by rw [CC_len]; omega
    obtain ⟨c, _, ec⟩ := atI_mem (xs := CC.cps.toList) q0 (by
      rw [Array.length_toList]
      show q < (CC.length : Int)
      rw [CC_len]; exact q1)
    refine ⟨c, T2, ?_⟩
    unfold r_char fnRun b__law_char
    have hb : (r == 0) = false := by simp [h]
    simp only [show Str.ofString " !\"#$&'()*+,-./0123456789:;<=>?@ABCDEFGHIJKLMNOPQRSTUVWXYZ[\\]^" = CA from rfl, show Str.ofString "_`abcdefghijklmnopqrstuvwxyz{|}~" = CB from rfl, show Str.ofString "ab -07" = CC from rfl]
    simp only [sSeq, sIf, eAnd, eOr, eNot, eB, bnd, eBin, eUn, eSub, eC, VH.ret, lift, eVar, eSh, eFz, sSet, sRet, sPut, sAsg, tgN, tgT, tgSeq, eAll, eCons, eNil, eAndV, eOrV, eNotV, eOfB, eIf, eIsN, eNotN, eNN, eNNo, eTru, sDo, sApp, sExt, sNext, oLst, oAdd, oIf, oList, eMov, eSl, ePart, ixI, eCallU, aNil, aVal, aBor, takeA, putA, List.getElem?_cons_zero, List.getElem?_cons_succ, List.set_cons_zero, List.set_cons_succ, Nat.reduceSub, Nat.reduceAdd, Nat.reduceLT, Nat.reduceLeDiff, List.length_cons, List.length_nil, Option.bind, Option.map, VH.keyOf, O.fzb, fz, blD, VH.intD, VH.lenD, absD, VH.strOfD, VH.listOfD, tupOfD, ordD, tupD, lstD, eqD, neD, eqS, ltD, leD, gtD, geD, addD, subD, mulD, fdivD, modD, negD, idxD, strD, eM1, isN, vi_int, vi_bool, vi_str, vi_tuple, vi_list, vi_dict, truD, mask, List.map_cons, List.map_nil, List.replicate, List.cons_append, List.nil_append, if_true, if_false, Bool.false_eq_true, decide_true, decide_false, beq_self_eq_true, Bool.not_true, Bool.not_false, and_self, and_true, true_and, Bool.or_true, Bool.true_or, Bool.or_false, Bool.false_or, Bool.and_true, Bool.and_false, ne_eq, not_false_eq_true, not_true_eq_false, reduceCtorEq, e1, hb, e2, if_pos i1, if_pos i2, ec]
/-- n draws in a comprehension -/
theorem comp_gen {tg : Tg} {ix : List Nat} {fe : En → Rs D} {P : D → Prop} {mk : Tape → En} (turn : ∀ T d, ∃ env1 y env3 T', tg d (mk T) = some env1 ∧ fe env1 = .ok y env3 ∧ dropE ix env3 = mk T' ∧ P y) :
    ∀ (items : List D) (T : Tape), ∃ ys T', compM tg ix (VH.ret true) fe items (mk T) = .ok ys (mk T') ∧ ys.length = items.length ∧ ∀ y ∈ ys, P y
  | [], T => ⟨[], T, rfl, rfl, fun _ h => nomatch h⟩
  | d :: ds, T => by
    obtain ⟨env1, y, env3, T1, e1, e2, e3, hy⟩ := turn T d
    obtain ⟨ys, T2, e4, l, hs⟩ := comp_gen turn ds T1
    refine ⟨y :: ys, T2, ?_, by simp [l], fun z hz => ?_⟩
    · unfold compM
      simp only [e1, VH.ret, if_true, e2, e3, e4]
    · rcases List.mem_cons.mp hz with rfl | hz
      · exact hy
      · exact hs z hz
theorem strs_of : ∀ ys : List D, (∀ y ∈ ys, ∃ c, y = .str ⟨#[c]⟩) → ∃ zs : List Str, strsD ys = some zs ∧ zs.length = ys.length ∧ ∀ z ∈ zs, z.length = 1
  | [], _ => ⟨[], rfl, rfl, fun _ h => nomatch h⟩
  | y :: ys, h => by
    obtain ⟨c, rfl⟩ := h y List.mem_cons_self
    obtain ⟨zs, e, l, k⟩ := strs_of ys fun z hz => h z (List.mem_cons_of_mem _ hz)
    refine ⟨⟨#[c]⟩ :: zs, by unfold strsD; rw [e]; rfl, by simp [l], fun z hz => ?_⟩
    rcases List.mem_cons.mp hz with rfl | hz
    · rfl
    · exact k z hz
theorem sum_ones : ∀ zs : List Str, (∀ z ∈ zs, z.length = 1) → (zs.map (·.length)).sum = zs.length
  | [], _ => rfl
  | z :: zs, h => by
    rw [List.map_cons, List.sum_cons, h z List.mem_cons_self, sum_ones zs fun y hy => h y (List.mem_cons_of_mem _ hy), List.length_cons]
    omega
theorem join0_len : ∀ zs : List Str, (Str.join (Str.ofString "") zs).length = (zs.map (·.length)).sum
  | [] => rfl
  | [z] => by simp [Str.join]
  | z :: y :: r => by
    show (z ++ Str.ofString "" ++ Str.join (Str.ofString "") (y :: r)).length = _
    rw [len_app, len_app, join0_len (y :: r), show (Str.ofString "").length = 0 by decide +kernel, List.map_cons (l := y :: r), List.sum_cons]
    omega
def r_text : List O → Rs O := fnRun bs__law_text 3 (b__law_text r_take r_char)
theorem rng_ok {n : Int} (h0 : 0 ≤ n) (h : n ≤ 1000000) : (-(2 ^ 62) ≤ n ∧ n < 2 ^ 62 ∧ n.toNat ≤ sizeLine) := by
  have := line_big
  omega
theorem text_end (T : Tape) {n : Int} (h0 : 0 ≤ n) (h : n ≤ 30) : ∃ x T', sRet (eSh (eM1 joinD (eC (.str (Str.ofString ""))) (eFz (oComp (eRng (eVar 1)) (tgN 2) [2] (VH.ret true) (eFz (eCallU r_char (aBor 0 (aNil)))))))) [some (tapeO T), some (.sh (.int n)), none] = .ok (.ret (.sh (.str x))) [some (tapeO T'), some (.sh (.int n)), none] ∧ x.length ≤ 30 := by
  obtain ⟨ys, T', e, l, k⟩ := comp_gen (tg := tgN 2) (ix := [2]) (fe := eFz (eCallU r_char (aBor 0 (aNil)))) (P := fun y => ∃ c, y = .str ⟨#[c]⟩) (mk := fun T => [some (tapeO T), some (.sh (.int n)), none])
    (fun T d => by
      obtain ⟨c, T', e⟩ := char_ex T
      refine ⟨[some (tapeO T), some (.sh (.int n)), some (.sh d)], .str ⟨#[c]⟩, [some (tapeO T'), some (.sh (.int n)), some (.sh d)], T', rfl, ?_, rfl, c, rfl⟩
      simp only [sSeq, sIf, eAnd, eOr, eNot, eB, bnd, eBin, eUn, eSub, eC, VH.ret, lift, eVar, eSh, eFz, sSet, sRet, sPut, sAsg, tgN, tgT, tgSeq, eAll, eCons, eNil, eAndV, eOrV, eNotV, eOfB, eIf, eIsN, eNotN, eNN, eNNo, eTru, sDo, sApp, sExt, sNext, oLst, oAdd, oIf, oList, eMov, eSl, ePart, ixI, eCallU, aNil, aVal, aBor, takeA, putA, List.getElem?_cons_zero, List.getElem?_cons_succ, List.set_cons_zero, List.set_cons_succ, Nat.reduceSub, Nat.reduceAdd, Nat.reduceLT, Nat.reduceLeDiff, List.length_cons, List.length_nil, Option.bind, Option.map, VH.keyOf, O.fzb, fz, blD, VH.intD, VH.lenD, absD, VH.strOfD, VH.listOfD, tupOfD, ordD, tupD, lstD, eqD, neD, eqS, ltD, leD, gtD, geD, addD, subD, mulD, fdivD, modD, negD, idxD, strD, eM1, isN, vi_int, vi_bool, vi_str, vi_tuple, vi_list, vi_dict, truD, mask, List.map_cons, List.map_nil, List.replicate, List.cons_append, List.nil_append, if_true, if_false, Bool.false_eq_true, decide_true, decide_false, beq_self_eq_true, Bool.not_true, Bool.not_false, and_self, and_true, true_and, Bool.or_true, Bool.true_or, Bool.or_false, Bool.false_or, Bool.and_true, Bool.and_false, ne_eq, not_false_eq_true, not_true_eq_false, reduceCtorEq, e]) (rngL 0 n.toNat) T
  obtain ⟨zs, ez, lz, kz⟩ := strs_of ys k
  have hs := sum_ones zs kz
  have hl : zs.length = n.toNat := by rw [lz, l]; simp [rngL]
  have hsum : (zs.map (·.length)).sum + zs.length * (Str.ofString "").length ≤ 16777216 := by
    rw [hs, show (Str.ofString "").length = 0 by decide +kernel]
    omega
  refine ⟨Txt.join (Str.ofString "") zs, T', ?_, ?_⟩
  · simp only [sSeq, sIf, eAnd, eOr, eNot, eB, bnd, eBin, eUn, eSub, eC, VH.ret, lift, eVar, eSh, eFz, sSet, sRet, sPut, sAsg, tgN, tgT, tgSeq, eAll, eCons, eNil, eAndV, eOrV, eNotV, eOfB, eIf, eIsN, eNotN, eNN, eNNo, eTru, sDo, sApp, sExt, sNext, oLst, oAdd, oIf, oList, eMov, eSl, ePart, ixI, eCallU, aNil, aVal, aBor, takeA, putA, List.getElem?_cons_zero, List.getElem?_cons_succ, List.set_cons_zero, List.set_cons_succ, Nat.reduceSub, Nat.reduceAdd, Nat.reduceLT, Nat.reduceLeDiff, List.length_cons, List.length_nil, Option.bind, Option.map, VH.keyOf, O.fzb, fz, blD, VH.intD, VH.lenD, absD, VH.strOfD, VH.listOfD, tupOfD, ordD, tupD, lstD, eqD, neD, eqS, ltD, leD, gtD, geD, addD, subD, mulD, fdivD, modD, negD, idxD, strD, eM1, isN, vi_int, vi_bool, vi_str, vi_tuple, vi_list, vi_dict, truD, mask, List.map_cons, List.map_nil, List.replicate, List.cons_append, List.nil_append, if_true, if_false, Bool.false_eq_true, decide_true, decide_false, beq_self_eq_true, Bool.not_true, Bool.not_false, and_self, and_true, true_and, Bool.or_true, Bool.true_or, Bool.or_false, Bool.false_or, Bool.and_true, Bool.and_false, ne_eq, not_false_eq_true, not_true_eq_false, reduceCtorEq, oComp, eRng, rng1D, if_pos (rng_ok h0 (show n ≤ 1000000 by omega)), dropE, e, joinD, ez, if_pos hsum]
  · rw [TL.join_eq, join0_len, hs]
    omega
theorem text_ex (T : Tape) : ∃ x T', r_text [tapeO T] = .ok (.sh (.str x)) [some (tapeO T')] ∧ x.length ≤ 30 := by
  obtain ⟨r, T1, e1, r0, r1⟩ := take_ex T (m := 6) (by decide) (by decide)
  obtain ⟨q, T2, e2, _, _⟩ := take_ex T1 (m := 12) (by decide) (by decide)
  by_cases h : q = 5
  · obtain ⟨u, T3, e3, u0, u1⟩ := take_ex T2 (m := 6) (by decide) (by decide)
    obtain ⟨x, T4, e4, hx⟩ := text_end T3 (n := 25 + u) (by omega) (by omega)
    refine ⟨x, T4, ?_, hx⟩
    unfold r_text fnRun b__law_text
    rw [seq_ok (e := [some (tapeO T1), some (.sh (.int r)), none]), seq_ok (e := [some (tapeO T3), some (.sh (.int (25 + u))), none])]
    · rw [show [some (tapeO T3), some (O.sh (PyData.int (25 + u))), none] = [some (tapeO T3), some (O.sh (PyData.int (25 + u))), none] from rfl, e4]
      rfl
    · simp only [sSeq, sIf, eAnd, eOr, eNot, eB, bnd, eBin, eUn, eSub, eC, VH.ret, lift, eVar, eSh, eFz, sSet, sRet, sPut, sAsg, tgN, tgT, tgSeq, eAll, eCons, eNil, eAndV, eOrV, eNotV, eOfB, eIf, eIsN, eNotN, eNN, eNNo, eTru, sDo, sApp, sExt, sNext, oLst, oAdd, oIf, oList, eMov, eSl, ePart, ixI, eCallU, aNil, aVal, aBor, takeA, putA, List.getElem?_cons_zero, List.getElem?_cons_succ, List.set_cons_zero, List.set_cons_succ, Nat.reduceSub, Nat.reduceAdd, Nat.reduceLT, Nat.reduceLeDiff, List.length_cons, List.length_nil, Option.bind, Option.map, VH.keyOf, O.fzb, fz, blD, VH.intD, VH.lenD, absD, VH.strOfD, VH.listOfD, tupOfD, ordD, tupD, lstD, eqD, neD, eqS, ltD, leD, gtD, geD, addD, subD, mulD, fdivD, modD, negD, idxD, strD, eM1, isN, vi_int, vi_bool, vi_str, vi_tuple, vi_list, vi_dict, truD, mask, List.map_cons, List.map_nil, List.replicate, List.cons_append, List.nil_append, if_true, if_false, Bool.false_eq_true, decide_true, decide_false, beq_self_eq_true, Bool.not_true, Bool.not_false, and_self, and_true, true_and, Bool.or_true, Bool.true_or, Bool.or_false, Bool.false_or, Bool.and_true, Bool.and_false, ne_eq, not_false_eq_true, not_true_eq_false, reduceCtorEq, e2, h, e3]
    · simp only [sSeq, sIf, eAnd, eOr, eNot, eB, bnd, eBin, eUn, eSub, eC, VH.ret, lift, eVar, eSh, eFz, sSet, sRet, sPut, sAsg, tgN, tgT, tgSeq, eAll, eCons, eNil, eAndV, eOrV, eNotV, eOfB, eIf, eIsN, eNotN, eNN, eNNo, eTru, sDo, sApp, sExt, sNext, oLst, oAdd, oIf, oList, eMov, eSl, ePart, ixI, eCallU, aNil, aVal, aBor, takeA, putA, List.getElem?_cons_zero, List.getElem?_cons_succ, List.set_cons_zero, List.set_cons_succ, Nat.reduceSub, Nat.reduceAdd, Nat.reduceLT, Nat.reduceLeDiff, List.length_cons, List.length_nil, Option.bind, Option.map, VH.keyOf, O.fzb, fz, blD, VH.intD, VH.lenD, absD, VH.strOfD, VH.listOfD, tupOfD, ordD, tupD, lstD, eqD, neD, eqS, ltD, leD, gtD, geD, addD, subD, mulD, fdivD, modD, negD, idxD, strD, eM1, isN, vi_int, vi_bool, vi_str, vi_tuple, vi_list, vi_dict, truD, mask, List.map_cons, List.map_nil, List.replicate, List.cons_append, List.nil_append, if_true, if_false, Bool.false_eq_true, decide_true, decide_false, beq_self_eq_true, Bool.not_true, Bool.not_false, and_self, and_true, true_and, Bool.or_true, Bool.true_or, Bool.or_false, Bool.false_or, Bool.and_true, Bool.and_false, ne_eq, not_false_eq_true, not_true_eq_false, reduceCtorEq, e1]
  · obtain ⟨x, T4, e4, hx⟩ := text_end T2 (n := r) (by omega) (by omega)
    refine ⟨x, T4, ?_, hx⟩
    have hb : (q == 5) = false := by simp [h]
    unfold r_text fnRun b__law_text
    rw [seq_ok (e := [some (tapeO T1), some (.sh (.int r)), none]), seq_ok (e := [some (tapeO T2), some (.sh (.int r)), none])]
    · rw [e4]
      rfl
    · simp only [sSeq, sIf, eAnd, eOr, eNot, eB, bnd, eBin, eUn, eSub, eC, VH.ret, lift, eVar, eSh, eFz, sSet, sRet, sPut, sAsg, tgN, tgT, tgSeq, eAll, eCons, eNil, eAndV, eOrV, eNotV, eOfB, eIf, eIsN, eNotN, eNN, eNNo, eTru, sDo, sApp, sExt, sNext, oLst, oAdd, oIf, oList, eMov, eSl, ePart, ixI, eCallU, aNil, aVal, aBor, takeA, putA, List.getElem?_cons_zero, List.getElem?_cons_succ, List.set_cons_zero, List.set_cons_succ, Nat.reduceSub, Nat.reduceAdd, Nat.reduceLT, Nat.reduceLeDiff, List.length_cons, List.length_nil, Option.bind, Option.map, VH.keyOf, O.fzb, fz, blD, VH.intD, VH.lenD, absD, VH.strOfD, VH.listOfD, tupOfD, ordD, tupD, lstD, eqD, neD, eqS, ltD, leD, gtD, geD, addD, subD, mulD, fdivD, modD, negD, idxD, strD, eM1, isN, vi_int, vi_bool, vi_str, vi_tuple, vi_list, vi_dict, truD, mask, List.map_cons, List.map_nil, List.replicate, List.cons_append, List.nil_append, if_true, if_false, Bool.false_eq_true, decide_true, decide_false, beq_self_eq_true, Bool.not_true, Bool.not_false, and_self, and_true, true_and, Bool.or_true, Bool.true_or, Bool.or_false, Bool.false_or, Bool.and_true, Bool.and_false, ne_eq, not_false_eq_true, not_true_eq_false, reduceCtorEq, e2, hb]
    · simp only [sSeq, sIf, eAnd, eOr, eNot, eB, bnd, eBin, eUn, eSub, eC, VH.ret, lift, eVar, eSh, eFz, sSet, sRet, sPut, sAsg, tgN, tgT, tgSeq, eAll, eCons, eNil, eAndV, eOrV, eNotV, eOfB, eIf, eIsN, eNotN, eNN, eNNo, eTru, sDo, sApp, sExt, sNext, oLst, oAdd, oIf, oList, eMov, eSl, ePart, ixI, eCallU, aNil, aVal, aBor, takeA, putA, List.getElem?_cons_zero, List.getElem?_cons_succ, List.set_cons_zero, List.set_cons_succ, Nat.reduceSub, Nat.reduceAdd, Nat.reduceLT, Nat.reduceLeDiff, List.length_cons, List.length_nil, Option.bind, Option.map, VH.keyOf, O.fzb, fz, blD, VH.intD, VH.lenD, absD, VH.strOfD, VH.listOfD, tupOfD, ordD, tupD, lstD, eqD, neD, eqS, ltD, leD, gtD, geD, addD, subD, mulD, fdivD, modD, negD, idxD, strD, eM1, isN, vi_int, vi_bool, vi_str, vi_tuple, vi_list, vi_dict, truD, mask, List.map_cons, List.map_nil, List.replicate, List.cons_append, List.nil_append, if_true, if_false, Bool.false_eq_true, decide_true, decide_false, beq_self_eq_true, Bool.not_true, Bool.not_false, and_self, and_true, true_and, Bool.or_true, Bool.true_or, Bool.or_false, Bool.false_or, Bool.and_true, Bool.and_false, ne_eq, not_false_eq_true, not_true_eq_false, reduceCtorEq, e1]
end K86
set_option Elab.async false
set_option linter.all false
set_option maxRecDepth 100000
set_option maxHeartbeats 4000000
namespace K86
open PySem PySem.Spec PyProof.Rows L2 VH
/-! ### the other draws -/
def r_integer : List O → Rs O := fnRun bs__law_integer 2 (b__law_integer r_take)
theorem integer_ex (T : Tape) : ∃ i T', r_integer [tapeO T] = .ok (.sh (.int i)) [some (tapeO T')] ∧ i.natAbs.log2 < 1920 := by
  obtain ⟨r, T1, e1, r0, r1⟩ := take_ex T (m := 8) (by decide) (by decide)
  have small : ∀ i : Int, i.natAbs < 2 ^ 40 → i.natAbs.log2 < 1920 := fun i h => by
    by_cases h0 : i.natAbs = 0
    · rw [h0]; decide
    · have := (Nat.log2_lt h0).mpr h
      omega
  by_cases h0 : r = 0
  · obtain ⟨q, T2, e2, q0, q1⟩ := take_ex T1 (m := 1999999999) (by decide) (by decide)
    refine ⟨q - 999999999, T2, ?_, small _ (by omega)⟩
    unfold r_integer fnRun b__law_integer
    simp only [sSeq, sIf, eAnd, eOr, eNot, eB, bnd, eBin, eUn, eSub, eC, VH.ret, lift, eVar, eSh, eFz, sSet, sRet, sPut, sAsg, tgN, tgT, tgSeq, eAll, eCons, eNil, eAndV, eOrV, eNotV, eOfB, eIf, eIsN, eNotN, eNN, eNNo, eTru, sDo, sApp, sExt, sNext, oLst, oAdd, oIf, oList, eMov, eSl, ePart, ixI, eCallU, aNil, aVal, aBor, takeA, putA, List.getElem?_cons_zero, List.getElem?_cons_succ, List.set_cons_zero, List.set_cons_succ, Nat.reduceSub, Nat.reduceAdd, Nat.reduceLT, Nat.reduceLeDiff, List.length_cons, List.length_nil, Option.bind, Option.map, VH.keyOf, O.fzb, fz, blD, VH.intD, VH.lenD, absD, VH.strOfD, VH.listOfD, tupOfD, ordD, tupD, lstD, eqD, neD, eqS, ltD, leD, gtD, geD, addD, subD, mulD, fdivD, modD, negD, idxD, strD, eM1, isN, vi_int, vi_bool, vi_str, vi_tuple, vi_list, vi_dict, truD, mask, List.map_cons, List.map_nil, List.replicate, List.cons_append, List.nil_append, if_true, if_false, Bool.false_eq_true, decide_true, decide_false, beq_self_eq_true, Bool.not_true, Bool.not_false, and_self, and_true, true_and, Bool.or_true, Bool.true_or, Bool.or_false, Bool.false_or, Bool.and_true, Bool.and_false, ne_eq, not_false_eq_true, not_true_eq_false, reduceCtorEq, e1, h0, e2]
  · have n0 : (r == 0) = false := by simp [h0]
    by_cases h1 : r = 1
    · obtain ⟨q, T2, e2, q0, q1⟩ := take_ex T1 (m := 4) (by decide) (by decide)
      obtain ⟨d, hd, ed⟩ := atI_mem (xs := [PyData.int 999999999, .int (-999999999), .int 999999998, .int 0]) q0 (by simpa using q1)
      have : ∃ i, d = .int i ∧ i.natAbs < 2 ^ 40 := by
        simp only [List.mem_cons, List.not_mem_nil, or_false] at hd
        rcases hd with rfl | rfl | rfl | rfl <;> exact ⟨_, rfl, by decide⟩
      obtain ⟨i, rfl, hi⟩ := this
      refine ⟨i, T2, ?_, small _ hi⟩
      unfold r_integer fnRun b__law_integer
      have n2 : (1 == (0 : Int)) = false := by decide
      simp only [sSeq, sIf, eAnd, eOr, eNot, eB, bnd, eBin, eUn, eSub, eC, VH.ret, lift, eVar, eSh, eFz, sSet, sRet, sPut, sAsg, tgN, tgT, tgSeq, eAll, eCons, eNil, eAndV, eOrV, eNotV, eOfB, eIf, eIsN, eNotN, eNN, eNNo, eTru, sDo, sApp, sExt, sNext, oLst, oAdd, oIf, oList, eMov, eSl, ePart, ixI, eCallU, aNil, aVal, aBor, takeA, putA, List.getElem?_cons_zero, List.getElem?_cons_succ, List.set_cons_zero, List.set_cons_succ, Nat.reduceSub, Nat.reduceAdd, Nat.reduceLT, Nat.reduceLeDiff, List.length_cons, List.length_nil, Option.bind, Option.map, VH.keyOf, O.fzb, fz, blD, VH.intD, VH.lenD, absD, VH.strOfD, VH.listOfD, tupOfD, ordD, tupD, lstD, eqD, neD, eqS, ltD, leD, gtD, geD, addD, subD, mulD, fdivD, modD, negD, idxD, strD, eM1, isN, vi_int, vi_bool, vi_str, vi_tuple, vi_list, vi_dict, truD, mask, List.map_cons, List.map_nil, List.replicate, List.cons_append, List.nil_append, if_true, if_false, Bool.false_eq_true, decide_true, decide_false, beq_self_eq_true, Bool.not_true, Bool.not_false, and_self, and_true, true_and, Bool.or_true, Bool.true_or, Bool.or_false, Bool.false_or, Bool.and_true, Bool.and_false, ne_eq, not_false_eq_true, not_true_eq_false, reduceCtorEq, e1, h1, n2, e2, Nat.reduceLeDiff, ed]
    · have n1 : (r == 1) = false := by simp [h1]
      by_cases h2 : r = 2
      · obtain ⟨q, T2, e2, q0, q1⟩ := take_ex T1 (m := 12) (by decide) (by decide)
        refine ⟨-q, T2, ?_, small _ (by omega)⟩
        unfold r_integer fnRun b__law_integer
        have n3 : (2 == (0 : Int)) = false := by decide
        have n4 : (2 == (1 : Int)) = false := by decide
        simp only [sSeq, sIf, eAnd, eOr, eNot, eB, bnd, eBin, eUn, eSub, eC, VH.ret, lift, eVar, eSh, eFz, sSet, sRet, sPut, sAsg, tgN, tgT, tgSeq, eAll, eCons, eNil, eAndV, eOrV, eNotV, eOfB, eIf, eIsN, eNotN, eNN, eNNo, eTru, sDo, sApp, sExt, sNext, oLst, oAdd, oIf, oList, eMov, eSl, ePart, ixI, eCallU, aNil, aVal, aBor, takeA, putA, List.getElem?_cons_zero, List.getElem?_cons_succ, List.set_cons_zero, List.set_cons_succ, Nat.reduceSub, Nat.reduceAdd, Nat.reduceLT, Nat.reduceLeDiff, List.length_cons, List.length_nil, Option.bind, Option.map, VH.keyOf, O.fzb, fz, blD, VH.intD, VH.lenD, absD, VH.strOfD, VH.listOfD, tupOfD, ordD, tupD, lstD, eqD, neD, eqS, ltD, leD, gtD, geD, addD, subD, mulD, fdivD, modD, negD, idxD, strD, eM1, isN, vi_int, vi_bool, vi_str, vi_tuple, vi_list, vi_dict, truD, mask, List.map_cons, List.map_nil, List.replicate, List.cons_append, List.nil_append, if_true, if_false, Bool.false_eq_true, decide_true, decide_false, beq_self_eq_true, Bool.not_true, Bool.not_false, and_self, and_true, true_and, Bool.or_true, Bool.true_or, Bool.or_false, Bool.false_or, Bool.and_true, Bool.and_false, ne_eq, not_false_eq_true, not_true_eq_false, reduceCtorEq, e1, h2, n3, n4, e2]
      · have n2 : (r == 2) = false := by simp [h2]
        obtain ⟨q, T2, e2, q0, q1⟩ := take_ex T1 (m := 6) (by decide) (by decide)
        refine ⟨q, T2, ?_, small _ (by omega)⟩
        unfold r_integer fnRun b__law_integer
        simp only [sSeq, sIf, eAnd, eOr, eNot, eB, bnd, eBin, eUn, eSub, eC, VH.ret, lift, eVar, eSh, eFz, sSet, sRet, sPut, sAsg, tgN, tgT, tgSeq, eAll, eCons, eNil, eAndV, eOrV, eNotV, eOfB, eIf, eIsN, eNotN, eNN, eNNo, eTru, sDo, sApp, sExt, sNext, oLst, oAdd, oIf, oList, eMov, eSl, ePart, ixI, eCallU, aNil, aVal, aBor, takeA, putA, List.getElem?_cons_zero, List.getElem?_cons_succ, List.set_cons_zero, List.set_cons_succ, Nat.reduceSub, Nat.reduceAdd, Nat.reduceLT, Nat.reduceLeDiff, List.length_cons, List.length_nil, Option.bind, Option.map, VH.keyOf, O.fzb, fz, blD, VH.intD, VH.lenD, absD, VH.strOfD, VH.listOfD, tupOfD, ordD, tupD, lstD, eqD, neD, eqS, ltD, leD, gtD, geD, addD, subD, mulD, fdivD, modD, negD, idxD, strD, eM1, isN, vi_int, vi_bool, vi_str, vi_tuple, vi_list, vi_dict, truD, mask, List.map_cons, List.map_nil, List.replicate, List.cons_append, List.nil_append, if_true, if_false, Bool.false_eq_true, decide_true, decide_false, beq_self_eq_true, Bool.not_true, Bool.not_false, and_self, and_true, true_and, Bool.or_true, Bool.true_or, Bool.or_false, Bool.false_or, Bool.and_true, Bool.and_false, ne_eq, not_false_eq_true, not_true_eq_false, reduceCtorEq, e1, n0, n1, n2, e2]
/-- what stands in an edit -/
def Sc (d : D) : Prop := (∃ i, d = .int i) ∨ ∃ x : Str, d = .str x ∧ x.length ≤ 3000
def r_value : List O → Rs O := fnRun bs__law_value 3 (b__law_value r_take r_integer r_text)
theorem value_ex (T : Tape) (k : Str) : ∃ d T', r_value [tapeO T, .sh (.str k), .sh (.bool false)] = .ok (.sh d) [some (tapeO T'), none, none] ∧ Sc d := by
  by_cases hk : k = Str.ofString "int"
  · obtain ⟨i, T1, e1, _⟩ := integer_ex T
    refine ⟨.int i, T1, ?_, .inl ⟨i, rfl⟩⟩
    unfold r_value fnRun b__law_value
    simp only [sSeq, sIf, eAnd, eOr, eNot, eB, bnd, eBin, eUn, eSub, eC, VH.ret, lift, eVar, eSh, eFz, sSet, sRet, sPut, sAsg, tgN, tgT, tgSeq, eAll, eCons, eNil, eAndV, eOrV, eNotV, eOfB, eIf, eIsN, eNotN, eNN, eNNo, eTru, sDo, sApp, sExt, sNext, oLst, oAdd, oIf, oList, eMov, eSl, ePart, ixI, eCallU, aNil, aVal, aBor, takeA, putA, List.getElem?_cons_zero, List.getElem?_cons_succ, List.set_cons_zero, List.set_cons_succ, Nat.reduceSub, Nat.reduceAdd, Nat.reduceLT, Nat.reduceLeDiff, List.length_cons, List.length_nil, Option.bind, Option.map, VH.keyOf, O.fzb, fz, blD, VH.intD, VH.lenD, absD, VH.strOfD, VH.listOfD, tupOfD, ordD, tupD, lstD, eqD, neD, eqS, ltD, leD, gtD, geD, addD, subD, mulD, fdivD, modD, negD, idxD, strD, eM1, isN, vi_int, vi_bool, vi_str, vi_tuple, vi_list, vi_dict, truD, mask, List.map_cons, List.map_nil, List.replicate, List.cons_append, List.nil_append, if_true, if_false, Bool.false_eq_true, decide_true, decide_false, beq_self_eq_true, Bool.not_true, Bool.not_false, and_self, and_true, true_and, Bool.or_true, Bool.true_or, Bool.or_false, Bool.false_or, Bool.and_true, Bool.and_false, ne_eq, not_false_eq_true, not_true_eq_false, reduceCtorEq, hk, e1]
  · have hb : (k == Str.ofString "int") = false := by simp [hk]
    obtain ⟨r, T1, e1, r0, r1⟩ := take_ex T (m := 3) (by decide) (by decide)
    by_cases h0 : r = 0
    · obtain ⟨q, T2, e2, q0, q1⟩ := take_ex T1 (m := 4) (by decide) (by decide)
      obtain ⟨d, hd, ed⟩ := atI_mem (xs := [PyData.str (Str.ofString ""), .str (Str.ofString "0"), .str (Str.ofString "-"), .str (Str.ofString "+")]) q0 (by simpa using q1)
      have : ∃ x, d = .str x ∧ x.length ≤ 1 := by
        simp only [List.mem_cons, List.not_mem_nil, or_false] at hd
        rcases hd with rfl | rfl | rfl | rfl <;> exact ⟨_, rfl, by decide +kernel⟩
      obtain ⟨x, rfl, hx⟩ := this
      obtain ⟨i, T3, e3, hi⟩ := integer_ex T2
      have hlen := PyProof.Rows.int_text_len_1921 hi
      have hL := line_big
      have hs : x.length + (Str.ofString (toString i)).length ≤ sizeLine := by omega
      refine ⟨.str (x ++ Str.ofString (toString i)), T3, ?_, .inr ⟨_, rfl, by rw [len_app]; omega⟩⟩
      unfold r_value fnRun b__law_value
      simp only [sSeq, sIf, eAnd, eOr, eNot, eB, bnd, eBin, eUn, eSub, eC, VH.ret, lift, eVar, eSh, eFz, sSet, sRet, sPut, sAsg, tgN, tgT, tgSeq, eAll, eCons, eNil, eAndV, eOrV, eNotV, eOfB, eIf, eIsN, eNotN, eNN, eNNo, eTru, sDo, sApp, sExt, sNext, oLst, oAdd, oIf, oList, eMov, eSl, ePart, ixI, eCallU, aNil, aVal, aBor, takeA, putA, List.getElem?_cons_zero, List.getElem?_cons_succ, List.set_cons_zero, List.set_cons_succ, Nat.reduceSub, Nat.reduceAdd, Nat.reduceLT, Nat.reduceLeDiff, List.length_cons, List.length_nil, Option.bind, Option.map, VH.keyOf, O.fzb, fz, blD, VH.intD, VH.lenD, absD, VH.strOfD, VH.listOfD, tupOfD, ordD, tupD, lstD, eqD, neD, eqS, ltD, leD, gtD, geD, addD, subD, mulD, fdivD, modD, negD, idxD, strD, eM1, isN, vi_int, vi_bool, vi_str, vi_tuple, vi_list, vi_dict, truD, mask, List.map_cons, List.map_nil, List.replicate, List.cons_append, List.nil_append, if_true, if_false, Bool.false_eq_true, decide_true, decide_false, beq_self_eq_true, Bool.not_true, Bool.not_false, and_self, and_true, true_and, Bool.or_true, Bool.true_or, Bool.or_false, Bool.false_or, Bool.and_true, Bool.and_false, ne_eq, not_false_eq_true, not_true_eq_false, reduceCtorEq, hb, e1, h0, e2, ed, e3, hi, if_pos hs]
    · have n0 : (r == 0) = false := by simp [h0]
      obtain ⟨x, T2, e2, hx⟩ := text_ex T1
      refine ⟨.str x, T2, ?_, .inr ⟨x, rfl, by omega⟩⟩
      unfold r_value fnRun b__law_value
      simp only [sSeq, sIf, eAnd, eOr, eNot, eB, bnd, eBin, eUn, eSub, eC, VH.ret, lift, eVar, eSh, eFz, sSet, sRet, sPut, sAsg, tgN, tgT, tgSeq, eAll, eCons, eNil, eAndV, eOrV, eNotV, eOfB, eIf, eIsN, eNotN, eNN, eNNo, eTru, sDo, sApp, sExt, sNext, oLst, oAdd, oIf, oList, eMov, eSl, ePart, ixI, eCallU, aNil, aVal, aBor, takeA, putA, List.getElem?_cons_zero, List.getElem?_cons_succ, List.set_cons_zero, List.set_cons_succ, Nat.reduceSub, Nat.reduceAdd, Nat.reduceLT, Nat.reduceLeDiff, List.length_cons, List.length_nil, Option.bind, Option.map, VH.keyOf, O.fzb, fz, blD, VH.intD, VH.lenD, absD, VH.strOfD, VH.listOfD, tupOfD, ordD, tupD, lstD, eqD, neD, eqS, ltD, leD, gtD, geD, addD, subD, mulD, fdivD, modD, negD, idxD, strD, eM1, isN, vi_int, vi_bool, vi_str, vi_tuple, vi_list, vi_dict, truD, mask, List.map_cons, List.map_nil, List.replicate, List.cons_append, List.nil_append, if_true, if_false, Bool.false_eq_true, decide_true, decide_false, beq_self_eq_true, Bool.not_true, Bool.not_false, and_self, and_true, true_and, Bool.or_true, Bool.true_or, Bool.or_false, Bool.false_or, Bool.and_true, Bool.and_false, ne_eq, not_false_eq_true, not_true_eq_false, reduceCtorEq, hb, e1, n0, e2]
end K86
set_option Elab.async false
set_option linter.all false
set_option maxRecDepth 100000
set_option maxHeartbeats 4000000
namespace K86
open PySem PySem.Spec PyProof.Rows L2 VH
theorem loop_inv {tg : Tg} {body : En → Rs Fl} {n : Nat} {I : Nat → En → Prop} (turn : ∀ i d env, i < n → I i env → ∃ env1 env2, tg d env = some env1 ∧ body env1 = .ok .nx env2 ∧ I (i + 1) env2) :
    ∀ (items : List D) (i : Nat) (env : En), i + items.length ≤ n → I i env → ∃ env', loopS tg body items env = .ok .nx env' ∧ I (i + items.length) env'
  | [], i, env, _, h => ⟨env, rfl, h⟩
  | d :: ds, i, env, hn, h => by
    obtain ⟨env1, env2, e1, e2, h2⟩ := turn i d env (by simp at hn; omega) h
    obtain ⟨env', e3, h3⟩ := loop_inv turn ds (i + 1) env2 (by simp at hn ⊢; omega) h2
    refine ⟨env', ?_, ?_⟩
    · unfold loopS
      simp only [e1, e2, e3]
    · have : i + (d :: ds).length = i + 1 + ds.length := by simp; omega
      rw [this]; exact h3
/-- what may be packed -/
def Gd : Nat → D → Prop
  | 0, _ => False
  | _ + 1, .none => True
  | _ + 1, .bool _ => True
  | _ + 1, .int _ => True
  | _ + 1, .str x => x.length ≤ 3000
  | n + 1, .list xs => xs.length ≤ 6 ∧ ∀ x ∈ xs, Gd n x
  | n + 1, .tuple xs => xs.length ≤ 6 ∧ ∀ x ∈ xs, Gd n x
  | _ + 1, .dict _ => False
theorem sc_gd {n : Nat} {d : D} (h : Sc d) : Gd (n + 1) d := by
  rcases h with ⟨i, rfl⟩ | ⟨x, rfl, h⟩
  · trivial
  · exact h
def Ed (d : D) : Prop := Gd 3 d
theorem all3 {P : D → Prop} {a b c : D} (h1 : P a) (h2 : P b) (h3 : P c) : ∀ x ∈ [a, b, c], P x := fun x h => by
  simp only [List.mem_cons, List.not_mem_nil, or_false] at h
  rcases h with rfl | rfl | rfl <;> assumption
theorem str_gd {n : Nat} (s : String) (h : (Str.ofString s).length ≤ 3000) : Gd (n + 1) (.str (Str.ofString s)) := h
theorem ed1 {d : D} (h : Sc d) : Ed (.tuple [.str (Str.ofString "delete"), .str (Str.ofString "t"), d]) := ⟨by simp, all3 (str_gd _ (by decide +kernel)) (str_gd _ (by decide +kernel)) (sc_gd h)⟩
theorem ed2 {d : D} (h : Sc d) : Ed (.tuple [.str (Str.ofString "set"), .str (Str.ofString "t"), d, .str (Str.ofString "a"), .none]) := ⟨by simp, fun x hx => by
  simp only [List.mem_cons, List.not_mem_nil, or_false] at hx
  rcases hx with rfl | rfl | rfl | rfl | rfl
  · exact str_gd _ (by decide +kernel)
  · exact str_gd _ (by decide +kernel)
  · exact sc_gd h
  · exact str_gd _ (by decide +kernel)
  · trivial⟩
theorem ed3 {d : D} (h : Sc d) : Ed (.tuple [.str (Str.ofString "insert"), .str (Str.ofString "u"), .tuple [d, .int 1]]) := ⟨by simp, all3 (str_gd _ (by decide +kernel)) (str_gd _ (by decide +kernel)) ⟨by simp, fun x hx => by
  simp only [List.mem_cons, List.not_mem_nil, or_false] at hx
  rcases hx with rfl | rfl
  · exact sc_gd h
  · trivial⟩⟩
def r_edits : List O → Rs O := fnRun bs__law_edits 4 (b__law_edits r_take r_value)
theorem edits_ex (T : Tape) : ∃ es T', r_edits [tapeO T] = .ok (.sh (.list es)) [some (tapeO T')] ∧ es.length ≤ 3 ∧ ∀ e ∈ es, Ed e := by
  have hL := line_big
  obtain ⟨r, T1, e1, r0, r1⟩ := take_ex T (m := 4) (by decide) (by decide)
  have hr : (rngL 0 r.toNat).length = r.toNat := by simp [rngL]
  obtain ⟨env', e2, T2, es, k2, d2, rfl, l2, h2⟩ := loop_inv (n := 3) (tg := tgN 2) (body := sSeq (sSet 3 (eSh (eFz (eCallU r_value (aBor 0 (aVal (eBin idxD (eAll lstD (eCons (eC (.str (Str.ofString "int"))) (eCons (eC (.str (Str.ofString "text"))) (eNil)))) (eFz (eCallU r_take (aBor 0 (aVal (eC (.int 2)) (aNil)))))) (aVal (eC (.bool false)) (aNil)))))))) (sApp 1 (eBin idxD (eAll lstD (eCons (eAll tupD (eCons (eC (.str (Str.ofString "delete"))) (eCons (eC (.str (Str.ofString "t"))) (eCons (eVar 3) (eNil))))) (eCons (eAll tupD (eCons (eC (.str (Str.ofString "set"))) (eCons (eC (.str (Str.ofString "t"))) (eCons (eVar 3) (eCons (eC (.str (Str.ofString "a"))) (eCons (eC .none) (eNil))))))) (eCons (eAll tupD (eCons (eC (.str (Str.ofString "insert"))) (eCons (eC (.str (Str.ofString "u"))) (eCons (eAll tupD (eCons (eVar 3) (eCons (eC (.int 1)) (eNil)))) (eNil))))) (eNil))))) (eFz (eCallU r_take (aBor 0 (aVal (eC (.int 3)) (aNil))))))))
    (I := fun i env => ∃ T es k d, env = [some (tapeO T), some (.lst es), k, d] ∧ es.length = i ∧ ∀ e ∈ es, Ed e) (fun i d env hi ⟨T, es, k, d', he, l, h⟩ => by
      subst he
      obtain ⟨q, T2, e2, q0, q1⟩ := take_ex T (m := 2) (by decide) (by decide)
      obtain ⟨y, hy, ey⟩ := atI_mem (xs := [PyData.str (Str.ofString "int"), .str (Str.ofString "text")]) q0 (by simpa using q1)
      obtain ⟨x, rfl⟩ : ∃ x, y = .str x := by
        simp only [List.mem_cons, List.not_mem_nil, or_false] at hy
        rcases hy with rfl | rfl <;> exact ⟨_, rfl⟩
      obtain ⟨v, T3, e3, hv⟩ := value_ex T2 x
      obtain ⟨u, T4, e4, u0, u1⟩ := take_ex T3 (m := 3) (by decide) (by decide)
      obtain ⟨z, hz, ez⟩ := atI_mem (xs := [PyData.tuple [.str (Str.ofString "delete"), .str (Str.ofString "t"), v], .tuple [.str (Str.ofString "set"), .str (Str.ofString "t"), v, .str (Str.ofString "a"), .none], .tuple [.str (Str.ofString "insert"), .str (Str.ofString "u"), .tuple [v, .int 1]]]) u0 (by simpa using u1)
      have hE : Ed z := by
        simp only [List.mem_cons, List.not_mem_nil, or_false] at hz
        rcases hz with rfl | rfl | rfl
        · exact ed1 hv
        · exact ed2 hv
        · exact ed3 hv
      have hl : es.length < sizeLine := by omega
      refine ⟨[some (tapeO T), some (.lst es), some (.sh d), d'], [some (tapeO T4), some (.lst (es ++ [z])), some (.sh d), some (.sh v)], rfl, ?_, T4, es ++ [z], _, _, rfl, by simp [l], fun e he => ?_⟩
      · simp only [sSeq, sIf, eAnd, eOr, eNot, eB, bnd, eBin, eUn, eSub, eC, VH.ret, lift, eVar, eSh, eFz, sSet, sRet, sPut, sAsg, tgN, tgT, tgSeq, eAll, eCons, eNil, eAndV, eOrV, eNotV, eOfB, eIf, eIsN, eNotN, eNN, eNNo, eTru, sDo, sApp, sExt, sNext, oLst, oAdd, oIf, oList, eMov, eSl, ePart, ixI, eCallU, aNil, aVal, aBor, takeA, putA, List.getElem?_cons_zero, List.getElem?_cons_succ, List.set_cons_zero, List.set_cons_succ, Nat.reduceSub, Nat.reduceAdd, Nat.reduceLT, Nat.reduceLeDiff, List.length_cons, List.length_nil, Option.bind, Option.map, VH.keyOf, O.fzb, fz, blD, VH.intD, VH.lenD, absD, VH.strOfD, VH.listOfD, tupOfD, ordD, tupD, lstD, eqD, neD, eqS, ltD, leD, gtD, geD, addD, subD, mulD, fdivD, modD, negD, idxD, strD, eM1, isN, vi_int, vi_bool, vi_str, vi_tuple, vi_list, vi_dict, truD, mask, List.map_cons, List.map_nil, List.replicate, List.cons_append, List.nil_append, if_true, if_false, Bool.false_eq_true, decide_true, decide_false, beq_self_eq_true, Bool.not_true, Bool.not_false, and_self, and_true, true_and, Bool.or_true, Bool.true_or, Bool.or_false, Bool.false_or, Bool.and_true, Bool.and_false, ne_eq, not_false_eq_true, not_true_eq_false, reduceCtorEq, e2, ey, e3, e4, ez, hl]
      · rcases List.mem_append.mp he with he | he
        · exact h e he
        · rw [List.mem_singleton.mp he]; exact hE) (rngL 0 r.toNat) 0 [some (tapeO T1), some (.lst []), none, none] (by rw [hr]; omega) ⟨T1, [], none, none, rfl, rfl, fun _ h => nomatch h⟩
  refine ⟨es, T2, ?_, by rw [l2, hr]; omega, h2⟩
  unfold r_edits fnRun b__law_edits
  rw [seq_ok (e := [some (tapeO T), some (.lst []), none, none]), seq_ok (e := [some (tapeO T2), some (.lst es), k2, d2])]
  · simp only [sSeq, sIf, eAnd, eOr, eNot, eB, bnd, eBin, eUn, eSub, eC, VH.ret, lift, eVar, eSh, eFz, sSet, sRet, sPut, sAsg, tgN, tgT, tgSeq, eAll, eCons, eNil, eAndV, eOrV, eNotV, eOfB, eIf, eIsN, eNotN, eNN, eNNo, eTru, sDo, sApp, sExt, sNext, oLst, oAdd, oIf, oList, eMov, eSl, ePart, ixI, eCallU, aNil, aVal, aBor, takeA, putA, List.getElem?_cons_zero, List.getElem?_cons_succ, List.set_cons_zero, List.set_cons_succ, Nat.reduceSub, Nat.reduceAdd, Nat.reduceLT, Nat.reduceLeDiff, List.length_cons, List.length_nil, Option.bind, Option.map, VH.keyOf, O.fzb, fz, blD, VH.intD, VH.lenD, absD, VH.strOfD, VH.listOfD, tupOfD, ordD, tupD, lstD, eqD, neD, eqS, ltD, leD, gtD, geD, addD, subD, mulD, fdivD, modD, negD, idxD, strD, eM1, isN, vi_int, vi_bool, vi_str, vi_tuple, vi_list, vi_dict, truD, mask, List.map_cons, List.map_nil, List.replicate, List.cons_append, List.nil_append, if_true, if_false, Bool.false_eq_true, decide_true, decide_false, beq_self_eq_true, Bool.not_true, Bool.not_false, and_self, and_true, true_and, Bool.or_true, Bool.true_or, Bool.or_false, Bool.false_or, Bool.and_true, Bool.and_false, ne_eq, not_false_eq_true, not_true_eq_false, reduceCtorEq]
  · simp only [sFor, bnd, eRng, eFz, eCallU, aBor, aVal, eC, VH.ret, aNil, takeA, putA, List.getElem?_cons_zero, List.set_cons_zero, e1, lift, rng1D, if_pos (rng_ok r0 (show r ≤ 1000000 by omega)), e2, O.fzb, fz, if_true]
  · simp only [sSeq, sIf, eAnd, eOr, eNot, eB, bnd, eBin, eUn, eSub, eC, VH.ret, lift, eVar, eSh, eFz, sSet, sRet, sPut, sAsg, tgN, tgT, tgSeq, eAll, eCons, eNil, eAndV, eOrV, eNotV, eOfB, eIf, eIsN, eNotN, eNN, eNNo, eTru, sDo, sApp, sExt, sNext, oLst, oAdd, oIf, oList, eMov, eSl, ePart, ixI, eCallU, aNil, aVal, aBor, takeA, putA, List.getElem?_cons_zero, List.getElem?_cons_succ, List.set_cons_zero, List.set_cons_succ, Nat.reduceSub, Nat.reduceAdd, Nat.reduceLT, Nat.reduceLeDiff, List.length_cons, List.length_nil, Option.bind, Option.map, VH.keyOf, O.fzb, fz, blD, VH.intD, VH.lenD, absD, VH.strOfD, VH.listOfD, tupOfD, ordD, tupD, lstD, eqD, neD, eqS, ltD, leD, gtD, geD, addD, subD, mulD, fdivD, modD, negD, idxD, strD, eM1, isN, vi_int, vi_bool, vi_str, vi_tuple, vi_list, vi_dict, truD, mask, List.map_cons, List.map_nil, List.replicate, List.cons_append, List.nil_append, if_true, if_false, Bool.false_eq_true, decide_true, decide_false, beq_self_eq_true, Bool.not_true, Bool.not_false, and_self, and_true, true_and, Bool.or_true, Bool.true_or, Bool.or_false, Bool.false_or, Bool.and_true, Bool.and_false, ne_eq, not_false_eq_true, not_true_eq_false, reduceCtorEq]
end K86
set_option Elab.async false
set_option linter.all false
set_option maxRecDepth 100000
set_option maxHeartbeats 4000000
namespace K86
open PySem PySem.Spec PyProof.Rows L2 VH
theorem loop_invP {tg : Tg} {body : En → Rs Fl} {n : Nat} {I : Nat → En → Prop} {P : D → Prop} (turn : ∀ i d env, i < n → P d → I i env → ∃ env1 env2, tg d env = some env1 ∧ body env1 = .ok .nx env2 ∧ I (i + 1) env2) :
    ∀ (items : List D) (i : Nat) (env : En), (∀ d ∈ items, P d) → i + items.length ≤ n → I i env → ∃ env', loopS tg body items env = .ok .nx env' ∧ I (i + items.length) env'
  | [], i, env, _, _, h => ⟨env, rfl, h⟩
  | d :: ds, i, env, hp, hn, h => by
    obtain ⟨env1, env2, e1, e2, h2⟩ := turn i d env (by simp at hn; omega) (hp d List.mem_cons_self) h
    obtain ⟨env', e3, h3⟩ := loop_invP turn ds (i + 1) env2 (fun x q => hp x (List.mem_cons_of_mem _ q)) (by simp at hn ⊢; omega) h2
    refine ⟨env', ?_, ?_⟩
    · unfold loopS
      simp only [e1, e2, e3]
    · have : i + (d :: ds).length = i + 1 + ds.length := by simp; omega
      rw [this]; exact h3
theorem run_ok {bs : List Bool} {tot : Nat} {b : En → Rs Fl} {os : List O} {o : O} {env : En} (h : b (os.map some ++ List.replicate (tot - os.length) none) = .ok (.ret o) env) : fnRun bs tot b os = .ok o (mask bs env) := by
  unfold fnRun
  rw [h]
theorem comp_map {tg : Tg} {ix : List Nat} {fe : En → Rs D} {P : D → Prop} {env : En} : ∀ (items : List D), (∀ d ∈ items, ∃ env1 y env3, tg d env = some env1 ∧ fe env1 = .ok y env3 ∧ dropE ix env3 = env ∧ P y) →
    ∃ ys, compM tg ix (VH.ret true) fe items env = .ok ys env ∧ ys.length = items.length ∧ ∀ y ∈ ys, P y
  | [], _ => ⟨[], rfl, rfl, fun _ h => nomatch h⟩
  | d :: ds, h => by
    obtain ⟨env1, y, env3, e1, e2, e3, hy⟩ := h d List.mem_cons_self
    obtain ⟨ys, e4, l, hs⟩ := comp_map ds fun x q => h x (List.mem_cons_of_mem _ q)
    refine ⟨y :: ys, ?_, by simp [l], fun z hz => ?_⟩
    · unfold compM
      simp only [e1, VH.ret, if_true, e2, e3, e4]
    · rcases List.mem_cons.mp hz with rfl | hz
      · exact hy
      · exact hs z hz
theorem ints_of : ∀ ys : List D, (∀ y ∈ ys, ∃ i : Int, y = .int i) → ∃ ns : List Int, ys = ns.map .int
  | [], _ => ⟨[], rfl⟩
  | y :: ys, h => by
    obtain ⟨i, rfl⟩ := h y List.mem_cons_self
    obtain ⟨ns, rfl⟩ := ints_of ys fun z hz => h z (List.mem_cons_of_mem _ hz)
    exact ⟨i :: ns, rfl⟩
/-- a list of numbers, at most B -/
def IL (B : Nat) (d : D) : Prop := ∃ ns : List Int, d = .list (ns.map .int) ∧ ns.length ≤ B
def r_tb : List O → Rs O := fnRun bs_to_bytes_of 4 b_to_bytes_of
def tbB : En → Rs Fl := sSeq (sApp 2 (eBin andD (eVar 0) (eC (.int 255)))) (sSet 0 (eSh (eBin shrD (eVar 0) (eC (.int 8)))))
theorem tb_turn (n : Int) (k u d : Option O) (ns : List Int) (hl : ns.length < sizeLine) : ∃ n' m : Int, tbB [some (.sh (.int n)), k, some (.lst (ns.map .int)), d] = .ok .nx [some (.sh (.int n')), k, some (.lst ((ns ++ [m]).map .int)), d] := by
  obtain ⟨m, hm⟩ : ∃ m, andD (.int n) (.int 255) = some (.int m) := ⟨_, rfl⟩
  obtain ⟨n', hn⟩ : ∃ n', shrD (.int n) (.int 8) = some (.int n') := by
    exact ⟨_, by simp only [shrD, if_pos (show (0 : Int) ≤ 8 by decide)]; rfl⟩
  refine ⟨n', m, ?_⟩
  unfold tbB
  simp only [sSeq, sIf, eAnd, eOr, eNot, eB, bnd, eBin, eUn, eSub, eC, VH.ret, lift, eVar, eSh, eFz, sSet, sRet, sPut, sAsg, tgN, tgT, tgSeq, eAll, eCons, eNil, eAndV, eOrV, eNotV, eOfB, eIf, eIsN, eNotN, eNN, eNNo, eTru, sDo, sApp, sExt, sNext, oLst, oAdd, oIf, oList, eMov, eSl, ePart, ixI, eCallU, aNil, aVal, aBor, takeA, putA, List.getElem?_cons_zero, List.getElem?_cons_succ, List.set_cons_zero, List.set_cons_succ, Nat.reduceSub, Nat.reduceAdd, Nat.reduceLT, Nat.reduceLeDiff, List.length_cons, List.length_nil, Option.bind, Option.map, VH.keyOf, O.fzb, fz, blD, VH.intD, VH.lenD, absD, VH.strOfD, VH.listOfD, tupOfD, ordD, tupD, lstD, eqD, neD, eqS, ltD, leD, gtD, geD, addD, subD, mulD, fdivD, modD, negD, idxD, strD, eM1, isN, vi_int, vi_bool, vi_str, vi_tuple, vi_list, vi_dict, truD, mask, List.map_cons, List.map_nil, List.replicate, List.cons_append, List.nil_append, if_true, if_false, Bool.false_eq_true, decide_true, decide_false, beq_self_eq_true, Bool.not_true, Bool.not_false, and_self, and_true, true_and, Bool.or_true, Bool.true_or, Bool.or_false, Bool.false_or, Bool.and_true, Bool.and_false, ne_eq, not_false_eq_true, not_true_eq_false, reduceCtorEq, hm, hn, List.length_map, hl, List.map_append]
theorem tb_loop (n : Int) {k : Nat} (hk : k ≤ 1000) : ∃ (n2 : Int) (ns : List Int) (u : Option O), loopS (tgN 3) tbB (rngL 0 (k : Int).toNat) [some (.sh (.int n)), some (.sh (.int k)), some (.lst []), none] = .ok .nx [some (.sh (.int n2)), some (.sh (.int k)), some (.lst (ns.map .int)), u] ∧ ns.length = k := by
  have hL := line_big
  have hr : (rngL 0 (k : Int).toNat).length = k := by simp [rngL]
  obtain ⟨env', e2, n2, ns, u, rfl, l⟩ := loop_inv (n := k) (tg := tgN 3) (body := tbB)
    (I := fun i env => ∃ (n : Int) (ns : List Int) (u : Option O), env = [some (.sh (.int n)), some (.sh (.int k)), some (.lst (ns.map .int)), u] ∧ ns.length = i) (fun i d env hi ⟨n, ns, u, he, l⟩ => by
      subst he
      obtain ⟨n', m, e⟩ := tb_turn n (some (.sh (.int k))) none (some (.sh d)) ns (by omega)
      exact ⟨_, _, rfl, e, n', _, _, rfl, by simp [l]⟩) (rngL 0 (k : Int).toNat) 0 [some (.sh (.int n)), some (.sh (.int k)), some (.lst []), none] (by rw [hr]; omega) ⟨n, [], none, rfl, rfl⟩
  exact ⟨n2, ns, u, e2, by rw [l, hr]; omega⟩
theorem tb_rng {k : Nat} (hk : k ≤ 1000) : rng1D (.int k) = some (rngL 0 (k : Int).toNat) := by
  have h0 : (0 : Int) ≤ k := Int.natCast_nonneg k
  have h1 : (k : Int) ≤ 1000000 := by omega
  generalize (k : Int) = z at h0 h1
  simp only [rng1D, if_pos (rng_ok h0 h1)]
theorem tb_A (n k : O) : sSet 2 (oLst (eNil)) [some n, some k, none, none] = .ok .nx [some n, some k, some (.lst []), none] := by simp only [sSeq, sIf, eAnd, eOr, eNot, eB, bnd, eBin, eUn, eSub, eC, VH.ret, lift, eVar, eSh, eFz, sSet, sRet, sPut, sAsg, tgN, tgT, tgSeq, eAll, eCons, eNil, eAndV, eOrV, eNotV, eOfB, eIf, eIsN, eNotN, eNN, eNNo, eTru, sDo, sApp, sExt, sNext, oLst, oAdd, oIf, oList, eMov, eSl, ePart, ixI, eCallU, aNil, aVal, aBor, takeA, putA, List.getElem?_cons_zero, List.getElem?_cons_succ, List.set_cons_zero, List.set_cons_succ, Nat.reduceSub, Nat.reduceAdd, Nat.reduceLT, Nat.reduceLeDiff, List.length_cons, List.length_nil, Option.bind, Option.map, VH.keyOf, O.fzb, fz, blD, VH.intD, VH.lenD, absD, VH.strOfD, VH.listOfD, tupOfD, ordD, tupD, lstD, eqD, neD, eqS, ltD, leD, gtD, geD, addD, subD, mulD, fdivD, modD, negD, idxD, strD, eM1, isN, vi_int, vi_bool, vi_str, vi_tuple, vi_list, vi_dict, truD, mask, List.map_cons, List.map_nil, List.replicate, List.cons_append, List.nil_append, if_true, if_false, Bool.false_eq_true, decide_true, decide_false, beq_self_eq_true, Bool.not_true, Bool.not_false, and_self, and_true, true_and, Bool.or_true, Bool.true_or, Bool.or_false, Bool.false_or, Bool.and_true, Bool.and_false, ne_eq, not_false_eq_true, not_true_eq_false, reduceCtorEq]
theorem tb_B (n : O) {z : Int} {e : En} {l : List D} (q : rng1D (.int z) = some l) (e2 : loopS (tgN 3) tbB l [some n, some (.sh (.int z)), some (.lst []), none] = .ok .nx e) : sFor (eRng (eVar 1)) (tgN 3) tbB [some n, some (.sh (.int z)), some (.lst []), none] = .ok .nx e := by
  simp only [sFor, bnd, eRng, eVar, List.getElem?_cons_zero, List.getElem?_cons_succ, O.fzb, fz, if_true, q, lift, VH.ret, List.set_cons_zero, List.set_cons_succ, e2]
theorem tb_C (n k u : Option O) (ns : List Int) : sRet (eSh (eUn revD (eVar 2))) [n, k, some (.lst (ns.map .int)), u] = .ok (.ret (.sh (.list (ns.reverse.map .int)))) [n, k, some (.sh (.list (ns.map .int))), u] := by simp only [sSeq, sIf, eAnd, eOr, eNot, eB, bnd, eBin, eUn, eSub, eC, VH.ret, lift, eVar, eSh, eFz, sSet, sRet, sPut, sAsg, tgN, tgT, tgSeq, eAll, eCons, eNil, eAndV, eOrV, eNotV, eOfB, eIf, eIsN, eNotN, eNN, eNNo, eTru, sDo, sApp, sExt, sNext, oLst, oAdd, oIf, oList, eMov, eSl, ePart, ixI, eCallU, aNil, aVal, aBor, takeA, putA, List.getElem?_cons_zero, List.getElem?_cons_succ, List.set_cons_zero, List.set_cons_succ, Nat.reduceSub, Nat.reduceAdd, Nat.reduceLT, Nat.reduceLeDiff, List.length_cons, List.length_nil, Option.bind, Option.map, VH.keyOf, O.fzb, fz, blD, VH.intD, VH.lenD, absD, VH.strOfD, VH.listOfD, tupOfD, ordD, tupD, lstD, eqD, neD, eqS, ltD, leD, gtD, geD, addD, subD, mulD, fdivD, modD, negD, idxD, strD, eM1, isN, vi_int, vi_bool, vi_str, vi_tuple, vi_list, vi_dict, truD, mask, List.map_cons, List.map_nil, List.replicate, List.cons_append, List.nil_append, if_true, if_false, Bool.false_eq_true, decide_true, decide_false, beq_self_eq_true, Bool.not_true, Bool.not_false, and_self, and_true, true_and, Bool.or_true, Bool.true_or, Bool.or_false, Bool.false_or, Bool.and_true, Bool.and_false, ne_eq, not_false_eq_true, not_true_eq_false, reduceCtorEq, revD, List.map_reverse]
theorem tb_ok (n : Int) {k : Nat} (hk : k ≤ 1000) : ∃ ns : List Int, r_tb [.sh (.int n), .sh (.int k)] = .ok (.sh (.list (ns.map .int))) [none, none] ∧ ns.length = k := by
  obtain ⟨n2, ns, u, e2, l⟩ := tb_loop n hk
  refine ⟨ns.reverse, ?_, by rw [List.length_reverse, l]⟩
  have e : b_to_bytes_of [some (.sh (.int n)), some (.sh (.int k)), none, none] = .ok (.ret (.sh (.list (ns.reverse.map .int)))) [some (.sh (.int n2)), some (.sh (.int k)), some (.sh (.list (ns.map .int))), u] := by
    exact (seq_ok (tb_A _ _)).trans ((seq_ok (tb_B _ (tb_rng hk) e2)).trans (tb_C _ _ _ _))
  exact run_ok (os := [.sh (.int n), .sh (.int k)]) (tot := 4) (bs := bs_to_bytes_of) e
def r_co : List O → Rs O := fnRun bs_code_of 1 b_code_of
theorem co_ok (c : Nat) : ∃ n : Int, r_co [.sh (.str ⟨#[c]⟩)] = .ok (.sh (.int n)) [none] := by
  obtain ⟨n, hn⟩ : ∃ n : Int, VH.ordD [.str ⟨#[c]⟩] = some (.int n) := ⟨_, by simp only [VH.ordD, if_pos (show (⟨#[c]⟩ : Str).length = 1 from rfl)]; rfl⟩
  refine ⟨n, ?_⟩
  unfold r_co fnRun b_code_of
  simp only [sRet, eSh, eAll, eCons, eNil, eVar, bnd, lift, VH.ret, List.map_cons, List.map_nil, List.cons_append, List.nil_append, List.getElem?_cons_zero, O.fzb, fz, if_true, hn, List.set_cons_zero, mask, List.length_cons, List.length_nil, Nat.reduceSub, Nat.reduceAdd, List.replicate, Bool.false_eq_true, if_false]
def r_ps : List O → Rs O := fnRun bs_pack_string 2 (b_pack_string r_tb r_co)
theorem add_l (a b : List Int) (h : a.length + b.length ≤ 16000000) : addD (.list (a.map .int)) (.list (b.map .int)) = some (.list ((a ++ b).map .int)) := by
  have hL := line_big
  have e : addL (.list (a.map .int)) (.list (b.map .int)) = some (.list ((a ++ b).map .int)) := by
    have h2 : a.length + b.length ≤ sizeLine := by omega
    simp only [addL, List.length_map, if_pos h2, List.map_append]
  exact e
theorem ps_ok (x : Str) (h : x.length ≤ 3000) : ∃ ns : List Int, r_ps [.sh (.str x)] = .ok (.sh (.list (ns.map .int))) [none] ∧ ns.length ≤ 3003 := by
  have hL := line_big
  obtain ⟨bs, eb, lb⟩ := tb_ok x.length (k := 2) (by decide)
  obtain ⟨ys, ey, ly, hy⟩ := comp_map (tg := tgN 1) (ix := [1]) (fe := eFz (eCallU r_co (aVal (eVar 1) (aNil)))) (P := fun y => ∃ i : Int, y = .int i) (env := [some (.sh (.str x)), none]) (charL x) fun d hd => by
    unfold charL at hd
    obtain ⟨c, _, rfl⟩ := List.mem_map.mp hd
    obtain ⟨n, en⟩ := co_ok c
    refine ⟨[some (.sh (.str x)), some (.sh (.str ⟨#[c]⟩))], .int n, [some (.sh (.str x)), some (.sh (.str ⟨#[c]⟩))], rfl, ?_, rfl, n, rfl⟩
    simp only [sSeq, sIf, eAnd, eOr, eNot, eB, bnd, eBin, eUn, eSub, eC, VH.ret, lift, eVar, eSh, eFz, sSet, sRet, sPut, sAsg, tgN, tgT, tgSeq, eAll, eCons, eNil, eAndV, eOrV, eNotV, eOfB, eIf, eIsN, eNotN, eNN, eNNo, eTru, sDo, sApp, sExt, sNext, oLst, oAdd, oIf, oList, eMov, eSl, ePart, ixI, eCallU, aNil, aVal, aBor, takeA, putA, List.getElem?_cons_zero, List.getElem?_cons_succ, List.set_cons_zero, List.set_cons_succ, Nat.reduceSub, Nat.reduceAdd, Nat.reduceLT, Nat.reduceLeDiff, List.length_cons, List.length_nil, Option.bind, Option.map, VH.keyOf, O.fzb, fz, blD, VH.intD, VH.lenD, absD, VH.strOfD, VH.listOfD, tupOfD, ordD, tupD, lstD, eqD, neD, eqS, ltD, leD, gtD, geD, addD, subD, mulD, fdivD, modD, negD, idxD, strD, eM1, isN, vi_int, vi_bool, vi_str, vi_tuple, vi_list, vi_dict, truD, mask, List.map_cons, List.map_nil, List.replicate, List.cons_append, List.nil_append, if_true, if_false, Bool.false_eq_true, decide_true, decide_false, beq_self_eq_true, Bool.not_true, Bool.not_false, and_self, and_true, true_and, Bool.or_true, Bool.true_or, Bool.or_false, Bool.false_or, Bool.and_true, Bool.and_false, ne_eq, not_false_eq_true, not_true_eq_false, reduceCtorEq, en]
  obtain ⟨ns, rfl⟩ := ints_of ys hy
  have hc : (charL x).length = x.length := by simp [charL]; rfl
  have l1 : ns.length ≤ 3000 := by rw [List.length_map] at ly; omega
  have hx : x.length ≤ sizeLine := by omega
  refine ⟨([5] ++ bs) ++ ns, ?_, by simp [lb]; omega⟩
  have a1 : addD (.list [.int 5]) (.list (bs.map .int)) = some (.list (([5] ++ bs).map .int)) := add_l [5] bs (by simp [lb])
  have a2 : addD (.list (([5] ++ bs).map .int)) (.list (ns.map .int)) = some (.list ((([5] ++ bs) ++ ns).map .int)) := add_l ([5] ++ bs) ns (by simp [lb]; omega)
  have t1 : lstD [.int 5] = some (.list [.int 5]) := rfl
  have t2 : VH.lenD [.str x] = some (.int x.length) := by unfold VH.lenD; simp only [if_pos hx]
  have t3 : itemsD (.str x) = some (charL x) := by unfold itemsD; simp only [if_pos hx]
  have e : b_pack_string r_tb r_co [some (.sh (.str x)), none] = .ok (.ret (.sh (.list ((([5] ++ bs) ++ ns).map .int)))) [some (.sh (.str x)), none] := by
    unfold b_pack_string
    have eb' : r_tb [.sh (.int x.length), .sh (.int 2)] = _ := eb
    simp only [sSeq, sIf, eAnd, eOr, eNot, eB, bnd, eBin, eUn, eSub, eC, VH.ret, lift, eVar, eSh, eFz, sSet, sRet, sPut, sAsg, tgN, tgT, tgSeq, eAll, eCons, eNil, eAndV, eOrV, eNotV, eOfB, eIf, eIsN, eNotN, eNN, eNNo, eTru, sDo, sApp, sExt, sNext, oLst, oAdd, oIf, oList, eMov, eSl, ePart, eCallU, aNil, aVal, aBor, takeA, putA, List.getElem?_cons_zero, List.getElem?_cons_succ, List.set_cons_zero, List.set_cons_succ, Nat.reduceSub, Nat.reduceAdd, Nat.reduceLT, Nat.reduceLeDiff, Option.bind, Option.map, VH.keyOf, O.fzb, fz, blD, eM1, List.replicate, if_true, if_false, Bool.false_eq_true, decide_true, decide_false, beq_self_eq_true, Bool.not_true, Bool.not_false, and_self, and_true, true_and, Bool.or_true, Bool.true_or, Bool.or_false, Bool.false_or, Bool.and_true, Bool.and_false, ne_eq, not_false_eq_true, not_true_eq_false, reduceCtorEq, t1, t2, eb', a1, oComp, eSeq, t3, dropE, ey, a2]
  exact run_ok (os := [.sh (.str x)]) (tot := 2) (bs := bs_pack_string) e
def r_pm : List O → Rs O := fnRun bs_pack_many 4 (b_pack_many r_tb)
theorem pm_turn (t p u : Option O) (ns ms : List Int) (h : ns.length + ms.length ≤ sizeLine) : sExt 2 (eVar 3) [t, p, some (.lst (ns.map .int)), some (.sh (.list (ms.map .int)))] = .ok .nx [t, p, some (.lst ((ns ++ ms).map .int)), some (.sh (.list (ms.map .int)))] := by
  simp only [sSeq, sIf, eAnd, eOr, eNot, eB, bnd, eBin, eUn, eSub, eC, VH.ret, lift, eVar, eSh, eFz, sSet, sRet, sPut, sAsg, tgN, tgT, tgSeq, eAll, eCons, eNil, eAndV, eOrV, eNotV, eOfB, eIf, eIsN, eNotN, eNN, eNNo, eTru, sDo, sApp, sExt, sNext, oLst, oAdd, oIf, oList, eMov, eSl, ePart, eCallU, aNil, aVal, aBor, takeA, putA, List.getElem?_cons_zero, List.getElem?_cons_succ, List.set_cons_zero, List.set_cons_succ, Nat.reduceSub, Nat.reduceAdd, Nat.reduceLT, Nat.reduceLeDiff, Option.bind, Option.map, VH.keyOf, O.fzb, fz, blD, eM1, List.replicate, if_true, if_false, Bool.false_eq_true, decide_true, decide_false, beq_self_eq_true, Bool.not_true, Bool.not_false, and_self, and_true, true_and, Bool.or_true, Bool.true_or, Bool.or_false, Bool.false_or, Bool.and_true, Bool.and_false, ne_eq, not_false_eq_true, not_true_eq_false, reduceCtorEq, List.length_map, if_pos h, List.map_append]
theorem pm_ok (tag : Int) (B : Nat) (parts : List D) (hp : ∀ p ∈ parts, IL B p) (hn : parts.length ≤ 6) (hB : B ≤ 1000000) : ∃ ns : List Int, r_pm [.sh (.int tag), .sh (.list parts)] = .ok (.sh (.list (ns.map .int))) [none, none] ∧ ns.length ≤ 3 + 6 * B := by
  have hL := line_big
  obtain ⟨bs, eb, lb⟩ := tb_ok parts.length (k := 2) (by decide)
  have hm : parts.length * B ≤ 6 * B := Nat.mul_le_mul_right B hn
  obtain ⟨env', e2, ns, u, rfl, l⟩ := loop_invP (n := parts.length) (tg := tgN 3) (body := sExt 2 (eVar 3)) (P := IL B)
    (I := fun i env => ∃ (ns : List Int) (u : Option O), env = [some (.sh (.int tag)), some (.sh (.list parts)), some (.lst (ns.map .int)), u] ∧ ns.length ≤ 3 + i * B) (fun i d env hi ⟨ms, hd, hms⟩ ⟨ns, u, he, l⟩ => by
      subst he; subst hd
      have hi2 : (i + 1) * B ≤ 6 * B := Nat.mul_le_mul_right B (by omega)
      have hi3 : (i + 1) * B = i * B + B := by rw [Nat.add_mul, Nat.one_mul]
      exact ⟨_, _, rfl, pm_turn _ _ none ns ms (by omega), _, _, rfl, by rw [List.length_append]; omega⟩) parts 0 [some (.sh (.int tag)), some (.sh (.list parts)), some (.lst (([tag] ++ bs).map .int)), none] hp (by omega) ⟨[tag] ++ bs, none, rfl, by simp [lb]⟩
  refine ⟨ns, ?_, by rw [Nat.zero_add] at l; omega⟩
  have eA : sSet 2 (oAdd (eAll lstD (eCons (eVar 0) (eNil))) (eFz (eCallU r_tb (aVal (eAll VH.lenD (eCons (eVar 1) (eNil))) (aVal (eC (.int 2)) (aNil)))))) [some (.sh (.int tag)), some (.sh (.list parts)), none, none] = .ok .nx [some (.sh (.int tag)), some (.sh (.list parts)), some (.lst (([tag] ++ bs).map .int)), none] := by
    have t1 : lstD [.int tag] = some (.list [.int tag]) := rfl
    have t2 : VH.lenD [.list parts] = some (.int parts.length) := rfl
    have eb' : r_tb [.sh (.int parts.length), .sh (.int 2)] = _ := eb
    have hl : 1 + (bs.map PyData.int).length ≤ sizeLine := by simp [lb]; omega
    simp only [sSeq, sIf, eAnd, eOr, eNot, eB, bnd, eBin, eUn, eSub, eC, VH.ret, lift, eVar, eSh, eFz, sSet, sRet, sPut, sAsg, tgN, tgT, tgSeq, eAll, eCons, eNil, eAndV, eOrV, eNotV, eOfB, eIf, eIsN, eNotN, eNN, eNNo, eTru, sDo, sApp, sExt, sNext, oLst, oAdd, oIf, oList, eMov, eSl, ePart, eCallU, aNil, aVal, aBor, takeA, putA, List.getElem?_cons_zero, List.getElem?_cons_succ, List.set_cons_zero, List.set_cons_succ, Nat.reduceSub, Nat.reduceAdd, Nat.reduceLT, Nat.reduceLeDiff, Option.bind, Option.map, VH.keyOf, O.fzb, fz, blD, eM1, List.replicate, if_true, if_false, Bool.false_eq_true, decide_true, decide_false, beq_self_eq_true, Bool.not_true, Bool.not_false, and_self, and_true, true_and, Bool.or_true, Bool.true_or, Bool.or_false, Bool.false_or, Bool.and_true, Bool.and_false, ne_eq, not_false_eq_true, not_true_eq_false, reduceCtorEq, t1, t2, eb', List.length_cons, List.length_nil, if_pos hl, List.map_append, List.map_cons, List.map_nil]
  have eB : sFor (eSeq (eVar 1)) (tgN 3) (sExt 2 (eVar 3)) [some (.sh (.int tag)), some (.sh (.list parts)), some (.lst (([tag] ++ bs).map .int)), none] = .ok .nx [some (.sh (.int tag)), some (.sh (.list parts)), some (.lst (ns.map .int)), u] := by
    simp only [sFor, bnd, eSeq, eVar, List.getElem?_cons_zero, List.getElem?_cons_succ, O.fzb, fz, if_true, itemsD, lift, VH.ret, List.set_cons_zero, List.set_cons_succ, e2]
  have eC' : sRet (eSh (eVar 2)) [some (.sh (.int tag)), some (.sh (.list parts)), some (.lst (ns.map .int)), u] = .ok (.ret (.sh (.list (ns.map .int)))) [some (.sh (.int tag)), some (.sh (.list parts)), some (.sh (.list (ns.map .int))), u] := by simp only [sSeq, sIf, eAnd, eOr, eNot, eB, bnd, eBin, eUn, eSub, eC, VH.ret, lift, eVar, eSh, eFz, sSet, sRet, sPut, sAsg, tgN, tgT, tgSeq, eAll, eCons, eNil, eAndV, eOrV, eNotV, eOfB, eIf, eIsN, eNotN, eNN, eNNo, eTru, sDo, sApp, sExt, sNext, oLst, oAdd, oIf, oList, eMov, eSl, ePart, eCallU, aNil, aVal, aBor, takeA, putA, List.getElem?_cons_zero, List.getElem?_cons_succ, List.set_cons_zero, List.set_cons_succ, Nat.reduceSub, Nat.reduceAdd, Nat.reduceLT, Nat.reduceLeDiff, Option.bind, Option.map, VH.keyOf, O.fzb, fz, blD, eM1, List.replicate, if_true, if_false, Bool.false_eq_true, decide_true, decide_false, beq_self_eq_true, Bool.not_true, Bool.not_false, and_self, and_true, true_and, Bool.or_true, Bool.true_or, Bool.or_false, Bool.false_or, Bool.and_true, Bool.and_false, ne_eq, not_false_eq_true, not_true_eq_false, reduceCtorEq]
  exact run_ok (os := [.sh (.int tag), .sh (.list parts)]) (tot := 4) (bs := bs_pack_many) ((seq_ok eA).trans ((seq_ok eB).trans eC'))
end K86
set_option Elab.async false
set_option linter.all false
set_option maxRecDepth 100000
set_option maxHeartbeats 4000000
namespace K86
open PySem PySem.Spec PyProof.Rows L2 VH
def r_pack : Nat → List O → Rs O
  | 0 => fun _ => .bad
  | n + 1 => fnRun bs_pack 4 (b_pack r_tb r_ps r_pm (r_pack n))
def pbd : Nat → Nat
  | 0 => 0
  | n + 1 => 3003 + 6 * pbd n
theorem pbd_le : ∀ n, n ≤ 4 → pbd n ≤ 1000000
  | 0, _ => by decide
  | 1, _ => by decide
  | 2, _ => by decide
  | 3, _ => by decide
  | 4, _ => by decide
  | n + 5, h => by omega
theorem pack_comp {n : Nat} (ih : ∀ d, Gd n d → ∃ ns : List Int, r_pack n [.sh d] = .ok (.sh (.list (ns.map .int))) [none] ∧ ns.length ≤ pbd n) (c : O) (xs : List D) (h : ∀ x ∈ xs, Gd n x) :
    ∃ ys, compM (tgN 1) [1] (VH.ret true) (eFz (eCallU (r_pack n) (aVal (eVar 1) (aNil)))) xs [some c, none, none, none] = .ok ys [some c, none, none, none] ∧ ys.length = xs.length ∧ ∀ y ∈ ys, IL (pbd n) y :=
  comp_map xs fun x hx => by
    obtain ⟨ns, e, l⟩ := ih x (h x hx)
    refine ⟨[some c, some (.sh x), none, none], .list (ns.map .int), [some c, some (.sh x), none, none], rfl, ?_, rfl, ns, rfl, l⟩
    simp only [sSeq, sIf, eAnd, eOr, eNot, eB, bnd, eBin, eUn, eSub, eC, VH.ret, lift, eVar, eSh, eFz, sSet, sRet, sPut, sAsg, tgN, tgT, tgSeq, eAll, eCons, eNil, eAndV, eOrV, eNotV, eOfB, eIf, eIsN, eNotN, eNN, eNNo, eTru, sDo, sApp, sExt, sNext, oLst, oAdd, oIf, oList, eMov, eSl, ePart, eCallU, aNil, aVal, aBor, takeA, putA, List.getElem?_cons_zero, List.getElem?_cons_succ, List.set_cons_zero, List.set_cons_succ, Nat.reduceSub, Nat.reduceAdd, Nat.reduceLT, Nat.reduceLeDiff, Option.bind, Option.map, VH.keyOf, O.fzb, fz, blD, eM1, List.replicate, if_true, if_false, Bool.false_eq_true, decide_true, decide_false, beq_self_eq_true, Bool.not_true, Bool.not_false, and_self, and_true, true_and, Bool.or_true, Bool.true_or, Bool.or_false, Bool.false_or, Bool.and_true, Bool.and_false, ne_eq, not_false_eq_true, not_true_eq_false, reduceCtorEq, e]
theorem pack_ok : ∀ (n : Nat) (d : D), n ≤ 5 → Gd n d → ∃ ns : List Int, r_pack n [.sh d] = .ok (.sh (.list (ns.map .int))) [none] ∧ ns.length ≤ pbd n
  | 0, _, _, h => h.elim
  | n + 1, .dict _, _, h => h.elim
  | n + 1, .none, _, h => by
    refine ⟨[0], ?_, by simp [pbd]; omega⟩
    refine run_ok (os := [.sh .none]) (tot := 4) (bs := bs_pack) (env := [some (.sh .none), none, none, none]) ?_
    unfold b_pack
    simp only [sSeq, sIf, eAnd, eOr, eNot, eB, bnd, eBin, eUn, eSub, eC, VH.ret, lift, eVar, eSh, eFz, sSet, sRet, sPut, sAsg, tgN, tgT, tgSeq, eAll, eCons, eNil, eAndV, eOrV, eNotV, eOfB, eIf, eIsN, eNotN, eNN, eNNo, eTru, sDo, sApp, sExt, sNext, oLst, oAdd, oIf, oList, eMov, eSl, ePart, eCallU, aNil, aVal, aBor, takeA, putA, List.getElem?_cons_zero, List.getElem?_cons_succ, List.set_cons_zero, List.set_cons_succ, Nat.reduceSub, Nat.reduceAdd, Nat.reduceLT, Nat.reduceLeDiff, Option.bind, Option.map, VH.keyOf, O.fzb, fz, blD, eM1, List.replicate, if_true, if_false, Bool.false_eq_true, decide_true, decide_false, beq_self_eq_true, Bool.not_true, Bool.not_false, and_self, and_true, true_and, Bool.or_true, Bool.true_or, Bool.or_false, Bool.false_or, Bool.and_true, Bool.and_false, ne_eq, not_false_eq_true, not_true_eq_false, reduceCtorEq, isN, lstD, List.length_cons, List.length_nil, List.map_cons, List.map_nil, List.cons_append, List.nil_append]
  | n + 1, .bool b, _, h => by
    refine ⟨[if b = true then 2 else 1], ?_, by simp [pbd]; omega⟩
    refine run_ok (os := [.sh (.bool b)]) (tot := 4) (bs := bs_pack) (env := [some (.sh (.bool b)), none, none, none]) ?_
    unfold b_pack
    cases b <;> simp only [sSeq, sIf, eAnd, eOr, eNot, eB, bnd, eBin, eUn, eSub, eC, VH.ret, lift, eVar, eSh, eFz, sSet, sRet, sPut, sAsg, tgN, tgT, tgSeq, eAll, eCons, eNil, eAndV, eOrV, eNotV, eOfB, eIf, eIsN, eNotN, eNN, eNNo, eTru, sDo, sApp, sExt, sNext, oLst, oAdd, oIf, oList, eMov, eSl, ePart, eCallU, aNil, aVal, aBor, takeA, putA, List.getElem?_cons_zero, List.getElem?_cons_succ, List.set_cons_zero, List.set_cons_succ, Nat.reduceSub, Nat.reduceAdd, Nat.reduceLT, Nat.reduceLeDiff, Option.bind, Option.map, VH.keyOf, O.fzb, fz, blD, eM1, List.replicate, if_true, if_false, Bool.false_eq_true, decide_true, decide_false, beq_self_eq_true, Bool.not_true, Bool.not_false, and_self, and_true, true_and, Bool.or_true, Bool.true_or, Bool.or_false, Bool.false_or, Bool.and_true, Bool.and_false, ne_eq, not_false_eq_true, not_true_eq_false, reduceCtorEq, isN, lstD, vi_bool, truD, List.length_cons, List.length_nil, List.map_cons, List.map_nil, List.cons_append, List.nil_append]
  | n + 1, .int i, _, h => by
    by_cases hi : i < 0
    · obtain ⟨bs, eb, lb⟩ := tb_ok (-i) (k := 4) (by decide)
      have eb' : r_tb [.sh (.int (-i)), .sh (.int 4)] = _ := eb
      have a1 : addD (.list [.int 4]) (.list (bs.map .int)) = some (.list (([4] ++ bs).map .int)) := add_l [4] bs (by simp [lb])
      refine ⟨[4] ++ bs, ?_, by simp [pbd, lb]; omega⟩
      refine run_ok (os := [.sh (.int i)]) (tot := 4) (bs := bs_pack) (env := [some (.sh (.int i)), none, none, none]) ?_
      unfold b_pack
      simp only [sSeq, sIf, eAnd, eOr, eNot, eB, bnd, eBin, eUn, eSub, eC, VH.ret, lift, eVar, eSh, eFz, sSet, sRet, sPut, sAsg, tgN, tgT, tgSeq, eAll, eCons, eNil, eAndV, eOrV, eNotV, eOfB, eIf, eIsN, eNotN, eNN, eNNo, eTru, sDo, sApp, sExt, sNext, oLst, oAdd, oIf, oList, eMov, eSl, ePart, eCallU, aNil, aVal, aBor, takeA, putA, List.getElem?_cons_zero, List.getElem?_cons_succ, List.set_cons_zero, List.set_cons_succ, Nat.reduceSub, Nat.reduceAdd, Nat.reduceLT, Nat.reduceLeDiff, Option.bind, Option.map, VH.keyOf, O.fzb, fz, blD, eM1, List.replicate, if_true, if_false, Bool.false_eq_true, decide_true, decide_false, beq_self_eq_true, Bool.not_true, Bool.not_false, and_self, and_true, true_and, Bool.or_true, Bool.true_or, Bool.or_false, Bool.false_or, Bool.and_true, Bool.and_false, ne_eq, not_false_eq_true, not_true_eq_false, reduceCtorEq, isN, lstD, vi_bool, vi_int, ltD, hi, negD, eb', a1, List.length_cons, List.length_nil, List.map_cons (f := O.sh), List.replicate, List.cons_append, List.nil_append, List.map_nil, List.map_cons (f := some)]
    · obtain ⟨bs, eb, lb⟩ := tb_ok i (k := 4) (by decide)
      have eb' : r_tb [.sh (.int i), .sh (.int 4)] = _ := eb
      have a1 : addD (.list [.int 3]) (.list (bs.map .int)) = some (.list (([3] ++ bs).map .int)) := add_l [3] bs (by simp [lb])
      refine ⟨[3] ++ bs, ?_, by simp [pbd, lb]; omega⟩
      refine run_ok (os := [.sh (.int i)]) (tot := 4) (bs := bs_pack) (env := [some (.sh (.int i)), none, none, none]) ?_
      unfold b_pack
      simp only [sSeq, sIf, eAnd, eOr, eNot, eB, bnd, eBin, eUn, eSub, eC, VH.ret, lift, eVar, eSh, eFz, sSet, sRet, sPut, sAsg, tgN, tgT, tgSeq, eAll, eCons, eNil, eAndV, eOrV, eNotV, eOfB, eIf, eIsN, eNotN, eNN, eNNo, eTru, sDo, sApp, sExt, sNext, oLst, oAdd, oIf, oList, eMov, eSl, ePart, eCallU, aNil, aVal, aBor, takeA, putA, List.getElem?_cons_zero, List.getElem?_cons_succ, List.set_cons_zero, List.set_cons_succ, Nat.reduceSub, Nat.reduceAdd, Nat.reduceLT, Nat.reduceLeDiff, Option.bind, Option.map, VH.keyOf, O.fzb, fz, blD, eM1, List.replicate, if_true, if_false, Bool.false_eq_true, decide_true, decide_false, beq_self_eq_true, Bool.not_true, Bool.not_false, and_self, and_true, true_and, Bool.or_true, Bool.true_or, Bool.or_false, Bool.false_or, Bool.and_true, Bool.and_false, ne_eq, not_false_eq_true, not_true_eq_false, reduceCtorEq, isN, lstD, vi_bool, vi_int, ltD, hi, negD, eb', a1, List.length_cons, List.length_nil, List.map_nil, List.map_cons (f := some), List.cons_append, List.nil_append]
  | n + 1, .str x, _, h => by
    obtain ⟨ns, e, l⟩ := ps_ok x h
    refine ⟨ns, ?_, by unfold pbd; omega⟩
    refine run_ok (os := [.sh (.str x)]) (tot := 4) (bs := bs_pack) (env := [some (.sh (.str x)), none, none, none]) ?_
    unfold b_pack
    simp only [sSeq, sIf, eAnd, eOr, eNot, eB, bnd, eBin, eUn, eSub, eC, VH.ret, lift, eVar, eSh, eFz, sSet, sRet, sPut, sAsg, tgN, tgT, tgSeq, eAll, eCons, eNil, eAndV, eOrV, eNotV, eOfB, eIf, eIsN, eNotN, eNN, eNNo, eTru, sDo, sApp, sExt, sNext, oLst, oAdd, oIf, oList, eMov, eSl, ePart, eCallU, aNil, aVal, aBor, takeA, putA, List.getElem?_cons_zero, List.getElem?_cons_succ, List.set_cons_zero, List.set_cons_succ, Nat.reduceSub, Nat.reduceAdd, Nat.reduceLT, Nat.reduceLeDiff, Option.bind, Option.map, VH.keyOf, O.fzb, fz, blD, eM1, List.replicate, if_true, if_false, Bool.false_eq_true, decide_true, decide_false, beq_self_eq_true, Bool.not_true, Bool.not_false, and_self, and_true, true_and, Bool.or_true, Bool.true_or, Bool.or_false, Bool.false_or, Bool.and_true, Bool.and_false, ne_eq, not_false_eq_true, not_true_eq_false, reduceCtorEq, isN, vi_bool, vi_int, vi_str, e, List.map_nil, List.map_cons (f := some), List.length_cons, List.length_nil, List.cons_append, List.nil_append]
  | n + 1, .tuple xs, hn, h => by
    obtain ⟨ys, ey, ly, hy⟩ := pack_comp (fun d => pack_ok n d (by omega)) (.sh (.tuple xs)) xs h.2
    obtain ⟨ns, e, l⟩ := pm_ok 6 (pbd n) ys hy (by rw [ly]; exact h.1) (pbd_le n (by omega))
    refine ⟨ns, ?_, by unfold pbd; omega⟩
    refine run_ok (os := [.sh (.tuple xs)]) (tot := 4) (bs := bs_pack) (env := [some (.sh (.tuple xs)), none, none, none]) ?_
    unfold b_pack
    simp only [sSeq, sIf, eAnd, eOr, eNot, eB, bnd, eBin, eUn, eSub, eC, VH.ret, lift, eVar, eSh, eFz, sSet, sRet, sPut, sAsg, tgN, tgT, tgSeq, eAll, eCons, eNil, eAndV, eOrV, eNotV, eOfB, eIf, eIsN, eNotN, eNN, eNNo, eTru, sDo, sApp, sExt, sNext, oLst, oAdd, oIf, oList, eMov, eSl, ePart, eCallU, aNil, aVal, aBor, takeA, putA, List.getElem?_cons_zero, List.getElem?_cons_succ, List.set_cons_zero, List.set_cons_succ, Nat.reduceSub, Nat.reduceAdd, Nat.reduceLT, Nat.reduceLeDiff, Option.bind, Option.map, VH.keyOf, O.fzb, fz, blD, eM1, List.replicate, if_true, if_false, Bool.false_eq_true, decide_true, decide_false, beq_self_eq_true, Bool.not_true, Bool.not_false, and_self, and_true, true_and, Bool.or_true, Bool.true_or, Bool.or_false, Bool.false_or, Bool.and_true, Bool.and_false, ne_eq, not_false_eq_true, not_true_eq_false, reduceCtorEq, isN, vi_bool, vi_int, vi_str, vi_tuple, oComp, eSeq, itemsD, dropE, ey, e, List.map_nil, List.map_cons (f := some), List.length_cons, List.length_nil, List.cons_append, List.nil_append]
  | n + 1, .list xs, hn, h => by
    obtain ⟨ys, ey, ly, hy⟩ := pack_comp (fun d => pack_ok n d (by omega)) (.sh (.list xs)) xs h.2
    obtain ⟨ns, e, l⟩ := pm_ok 7 (pbd n) ys hy (by rw [ly]; exact h.1) (pbd_le n (by omega))
    refine ⟨ns, ?_, by unfold pbd; omega⟩
    refine run_ok (os := [.sh (.list xs)]) (tot := 4) (bs := bs_pack) (env := [some (.sh (.list xs)), none, none, none]) ?_
    unfold b_pack
    simp only [sSeq, sIf, eAnd, eOr, eNot, eB, bnd, eBin, eUn, eSub, eC, VH.ret, lift, eVar, eSh, eFz, sSet, sRet, sPut, sAsg, tgN, tgT, tgSeq, eAll, eCons, eNil, eAndV, eOrV, eNotV, eOfB, eIf, eIsN, eNotN, eNN, eNNo, eTru, sDo, sApp, sExt, sNext, oLst, oAdd, oIf, oList, eMov, eSl, ePart, eCallU, aNil, aVal, aBor, takeA, putA, List.getElem?_cons_zero, List.getElem?_cons_succ, List.set_cons_zero, List.set_cons_succ, Nat.reduceSub, Nat.reduceAdd, Nat.reduceLT, Nat.reduceLeDiff, Option.bind, Option.map, VH.keyOf, O.fzb, fz, blD, eM1, List.replicate, if_true, if_false, Bool.false_eq_true, decide_true, decide_false, beq_self_eq_true, Bool.not_true, Bool.not_false, and_self, and_true, true_and, Bool.or_true, Bool.true_or, Bool.or_false, Bool.false_or, Bool.and_true, Bool.and_false, ne_eq, not_false_eq_true, not_true_eq_false, reduceCtorEq, isN, vi_bool, vi_int, vi_str, vi_tuple, vi_list, oComp, eSeq, itemsD, dropE, ey, e, List.map_nil, List.map_cons (f := some), List.length_cons, List.length_nil, List.cons_append, List.nil_append]
end K86
set_option Elab.async false
set_option linter.all false
set_option maxRecDepth 100000
set_option maxHeartbeats 4000000
namespace K86
open PySem PySem.Spec PyProof.Rows L2 VH
def toI : D → Int
  | .int i => i
  | _ => 0
@[irreducible] def pk (d : D) : List Int := match r_pack 5 [.sh d] with
  | .ok (.sh (.list l)) _ => l.map toI
  | _ => []
theorem pk_ok {d : D} (h : Gd 5 d) : r_pack 5 [.sh d] = .ok (.sh (.list ((pk d).map .int))) [none] := by
  obtain ⟨ns, e, _⟩ := pack_ok 5 d (by omega) h
  have : pk d = ns := by
    unfold pk
    rw [e]
    simp only [List.map_map]
    show List.map (fun i => i) ns = ns
    exact List.map_id' ns
  rw [this, e]
def stp (b y : Int) : Int := (257 * b + y) % 999983
def slf (b : Int) (l : List Int) : Int := l.foldl stp b
def SL (b n v : Int) (es : List D) : Int := slf b (pk (.tuple [.int n, .int v, .tuple es]))
theorem c257 (x : Int) : ((-(2 ^ 64) < (257 : Int) ∧ (257 : Int) < 2 ^ 64) ∨ (-(2 ^ 64) < x ∧ x < 2 ^ 64)) := .inl (by decide)
theorem p999 : (0 : Int) < 999983 := by decide
theorem m257 (b : Int) : mulD (.int 257) (.int b) = some (.int (257 * b)) := by simp only [mulD, if_pos (c257 b)]
theorem m999 (b : Int) : modD (.int b) (.int 999983) = some (.int (b % 999983)) := by simp only [modD, if_pos p999]
theorem a_ii (a b : Int) : addD (.int a) (.int b) = some (.int (a + b)) := rfl
theorem i_i (a : Int) : VH.intD [.int a] = some (.int a) := rfl
theorem so_loop (x y z : Option O) : ∀ (ns : List Int) (b : Int) (u : Option O), ∃ u', loopS (tgN 4) (sSet 0 (eSh (eBin modD (eBin addD (eBin mulD (eC (.int (257))) (eVar 0)) (eVar 4)) (eC (.int (999983)))))) (ns.map .int) [some (.sh (.int b)), x, y, z, u] = .ok .nx [some (.sh (.int (slf b ns))), x, y, z, u']
  | [], b, u => ⟨u, rfl⟩
  | n :: ns, b, u => by
    obtain ⟨u', e⟩ := so_loop x y z ns (stp b n) (some (.sh (.int n)))
    refine ⟨u', ?_⟩
    have e1 : sSet 0 (eSh (eBin modD (eBin addD (eBin mulD (eC (.int (257))) (eVar 0)) (eVar 4)) (eC (.int (999983))))) [some (.sh (.int b)), x, y, z, some (.sh (.int n))] = .ok .nx [some (.sh (.int (stp b n))), x, y, z, some (.sh (.int n))] := by
      simp only [sSeq, sIf, eAnd, eOr, eNot, eB, bnd, eBin, eUn, eSub, eC, VH.ret, lift, eVar, eSh, eFz, sSet, sRet, sPut, sAsg, tgN, tgT, tgSeq, eAll, eCons, eNil, eAndV, eOrV, eNotV, eOfB, eIf, eIsN, eNotN, eNN, eNNo, eTru, sDo, sApp, sExt, sNext, oLst, oAdd, oIf, oList, eMov, eSl, ePart, eCallU, aNil, aVal, aBor, takeA, putA, List.getElem?_cons_zero, List.getElem?_cons_succ, List.set_cons_zero, List.set_cons_succ, Nat.reduceSub, Nat.reduceAdd, Nat.reduceLT, Nat.reduceLeDiff, Option.bind, Option.map, VH.keyOf, O.fzb, fz, blD, eM1, List.replicate, if_true, if_false, Bool.false_eq_true, decide_true, decide_false, beq_self_eq_true, Bool.not_true, Bool.not_false, and_self, and_true, true_and, Bool.or_true, Bool.true_or, Bool.or_false, Bool.false_or, Bool.and_true, Bool.and_false, ne_eq, not_false_eq_true, not_true_eq_false, reduceCtorEq, m257, a_ii, m999, List.length_cons, List.length_nil]
      rfl
    show loopS _ _ (.int n :: ns.map .int) _ = _
    unfold loopS
    simp only [show tgN 4 (.int n) [some (.sh (.int b)), x, y, z, u] = some [some (.sh (.int b)), x, y, z, some (.sh (.int n))] from rfl, e1]
    exact e
theorem mask1 (env : En) : mask [false] env = [none] := by cases env <;> rfl
theorem mask2 (env : En) : mask [false, false] env = [none, none] := by
  cases env with
  | nil => rfl
  | cons a env => cases env <;> rfl
theorem mask4 (env : En) : mask [false, false, false, false] env = [none, none, none, none] := by
  match env with
  | [] => rfl
  | [_] => rfl
  | [_, _] => rfl
  | [_, _, _] => rfl
  | _ :: _ :: _ :: _ :: _ => rfl
theorem loop_cons {tg : Tg} {body : En → Rs Fl} {d : D} {ds : List D} {env env1 env2 : En} (h1 : tg d env = some env1) (h2 : body env1 = .ok .nx env2) : loopS tg body (d :: ds) env = loopS tg body ds env2 := by
  rw [loopS]
  simp only [h1, h2]
theorem for_ok {fi : En → Rs (List D)} {tg : Tg} {body : En → Rs Fl} {env env1 : En} {items : List D} {r : Rs Fl} (h1 : fi env = .ok items env1) (h2 : loopS tg body items env1 = r) : sFor fi tg body env = r := by
  unfold sFor bnd
  rw [h1]
  exact h2
def r_so : List O → Rs O := fnRun bs_seal_of 5 (b_seal_of (r_pack 5))
/-- a triple that may be sealed -/
def Gt (es : List D) : Prop := es.length ≤ 4 ∧ ∀ x ∈ es, Ed x
theorem gt_gd {n v : Int} {es : List D} (h : Gt es) : Gd 5 (.tuple [.int n, .int v, .tuple es]) := ⟨by simp, fun x hx => by
  simp only [List.mem_cons, List.not_mem_nil, or_false] at hx
  rcases hx with rfl | rfl | rfl
  · trivial
  · trivial
  · exact ⟨by have := h.1; omega, h.2⟩⟩
theorem t3 (a b c : D) : tupD [a, b, c] = some (.tuple [a, b, c]) := rfl
theorem so_ok (b n v : Int) {es : List D} (h : Gt es) : r_so [.sh (.int b), .sh (.int n), .sh (.int v), .sh (.tuple es)] = .ok (.sh (.int (SL b n v es))) [none, none, none, none] := by
  obtain ⟨u, e⟩ := so_loop (some (.sh (.int n))) (some (.sh (.int v))) (some (.sh (.tuple es))) (pk (.tuple [.int n, .int v, .tuple es])) b none
  have ep := pk_ok (gt_gd (n := n) (v := v) h)
  have e0 : eSeq (eFz (eCallU (r_pack 5) (aVal (eAll tupD (eCons (eVar 1) (eCons (eVar 2) (eCons (eVar 3) (eNil))))) (aNil)))) [some (.sh (.int b)), some (.sh (.int n)), some (.sh (.int v)), some (.sh (.tuple es)), none] = .ok ((pk (.tuple [.int n, .int v, .tuple es])).map .int) [some (.sh (.int b)), some (.sh (.int n)), some (.sh (.int v)), some (.sh (.tuple es)), none] := by
    simp only [sSeq, sIf, eAnd, eOr, eNot, eB, bnd, eBin, eUn, eSub, eC, VH.ret, lift, eVar, eSh, eFz, sSet, sRet, sPut, sAsg, tgN, tgT, tgSeq, eAll, eCons, eNil, eAndV, eOrV, eNotV, eOfB, eIf, eIsN, eNotN, eNN, eNNo, eTru, sDo, sApp, sExt, sNext, oLst, oAdd, oIf, oList, eMov, eSl, ePart, eCallU, aNil, aVal, aBor, takeA, putA, List.getElem?_cons_zero, List.getElem?_cons_succ, List.set_cons_zero, List.set_cons_succ, Nat.reduceSub, Nat.reduceAdd, Nat.reduceLT, Nat.reduceLeDiff, Option.bind, Option.map, VH.keyOf, O.fzb, fz, blD, eM1, List.replicate, if_true, if_false, Bool.false_eq_true, decide_true, decide_false, beq_self_eq_true, Bool.not_true, Bool.not_false, and_self, and_true, true_and, Bool.or_true, Bool.true_or, Bool.or_false, Bool.false_or, Bool.and_true, Bool.and_false, ne_eq, not_false_eq_true, not_true_eq_false, reduceCtorEq, eSeq, t3, ep, itemsD]
  have eR : sRet (eSh (eVar 0)) [some (.sh (.int (SL b n v es))), some (.sh (.int n)), some (.sh (.int v)), some (.sh (.tuple es)), u] = .ok (.ret (.sh (.int (SL b n v es)))) [some (.sh (.int (SL b n v es))), some (.sh (.int n)), some (.sh (.int v)), some (.sh (.tuple es)), u] := by simp only [sSeq, sIf, eAnd, eOr, eNot, eB, bnd, eBin, eUn, eSub, eC, VH.ret, lift, eVar, eSh, eFz, sSet, sRet, sPut, sAsg, tgN, tgT, tgSeq, eAll, eCons, eNil, eAndV, eOrV, eNotV, eOfB, eIf, eIsN, eNotN, eNN, eNNo, eTru, sDo, sApp, sExt, sNext, oLst, oAdd, oIf, oList, eMov, eSl, ePart, eCallU, aNil, aVal, aBor, takeA, putA, List.getElem?_cons_zero, List.getElem?_cons_succ, List.set_cons_zero, List.set_cons_succ, Nat.reduceSub, Nat.reduceAdd, Nat.reduceLT, Nat.reduceLeDiff, Option.bind, Option.map, VH.keyOf, O.fzb, fz, blD, eM1, List.replicate, if_true, if_false, Bool.false_eq_true, decide_true, decide_false, beq_self_eq_true, Bool.not_true, Bool.not_false, and_self, and_true, true_and, Bool.or_true, Bool.true_or, Bool.or_false, Bool.false_or, Bool.and_true, Bool.and_false, ne_eq, not_false_eq_true, not_true_eq_false, reduceCtorEq]
  exact (run_ok (os := [.sh (.int b), .sh (.int n), .sh (.int v), .sh (.tuple es)]) (tot := 5) (bs := bs_seal_of) ((seq_ok (for_ok e0 e)).trans eR)).trans (by rw [mask4])
def r_ls : List O → Rs O := fnRun bs__law_seal 3 (b__law_seal (r_pack 5))
theorem ls_loop (x : Option O) : ∀ (ns : List Int) (b : Int) (u : Option O), ∃ u', loopS (tgN 2) (sSet 0 (eSh (eBin modD (eAll VH.intD (eCons (eBin addD (eBin mulD (eC (.int 257)) (eVar 0)) (eVar 2)) (eNil))) (eC (.int 999983))))) (ns.map .int) [some (.sh (.int b)), x, u] = .ok .nx [some (.sh (.int (slf b ns))), x, u']
  | [], b, u => ⟨u, rfl⟩
  | n :: ns, b, u => by
    obtain ⟨u', e⟩ := ls_loop x ns (stp b n) (some (.sh (.int n)))
    refine ⟨u', ?_⟩
    have e1 : sSet 0 (eSh (eBin modD (eAll VH.intD (eCons (eBin addD (eBin mulD (eC (.int 257)) (eVar 0)) (eVar 2)) (eNil))) (eC (.int 999983)))) [some (.sh (.int b)), x, some (.sh (.int n))] = .ok .nx [some (.sh (.int (stp b n))), x, some (.sh (.int n))] := by
      simp only [sSeq, sIf, eAnd, eOr, eNot, eB, bnd, eBin, eUn, eSub, eC, VH.ret, lift, eVar, eSh, eFz, sSet, sRet, sPut, sAsg, tgN, tgT, tgSeq, eAll, eCons, eNil, eAndV, eOrV, eNotV, eOfB, eIf, eIsN, eNotN, eNN, eNNo, eTru, sDo, sApp, sExt, sNext, oLst, oAdd, oIf, oList, eMov, eSl, ePart, eCallU, aNil, aVal, aBor, takeA, putA, List.getElem?_cons_zero, List.getElem?_cons_succ, List.set_cons_zero, List.set_cons_succ, Nat.reduceSub, Nat.reduceAdd, Nat.reduceLT, Nat.reduceLeDiff, Option.bind, Option.map, VH.keyOf, O.fzb, fz, blD, eM1, List.replicate, if_true, if_false, Bool.false_eq_true, decide_true, decide_false, beq_self_eq_true, Bool.not_true, Bool.not_false, and_self, and_true, true_and, Bool.or_true, Bool.true_or, Bool.or_false, Bool.false_or, Bool.and_true, Bool.and_false, ne_eq, not_false_eq_true, not_true_eq_false, reduceCtorEq, m257, a_ii, i_i, m999, List.length_cons, List.length_nil]
      rfl
    show loopS _ _ (.int n :: ns.map .int) _ = _
    unfold loopS
    simp only [show tgN 2 (.int n) [some (.sh (.int b)), x, u] = some [some (.sh (.int b)), x, some (.sh (.int n))] from rfl, e1]
    exact e
theorem ls_ok (b n v : Int) {es : List D} {rest : List D} (hr : rest = [] ∨ ∃ s, rest = [s]) (h : Gt es) : r_ls [.sh (.int b), .sh (.tuple (.int n :: .int v :: .tuple es :: rest))] = .ok (.sh (.int (SL b n v es))) [none, none] := by
  obtain ⟨u, e⟩ := ls_loop (some (.sh (.tuple (.int n :: .int v :: .tuple es :: rest)))) (pk (.tuple [.int n, .int v, .tuple es])) b none
  have ep := pk_ok (gt_gd (n := n) (v := v) h)
  have es' : slD none (some 3) (.tuple (.int n :: .int v :: .tuple es :: rest)) = some (.tuple [.int n, .int v, .tuple es]) := by
    rcases hr with rfl | ⟨s, rfl⟩ <;> rfl
  have i3 : ixI (.int 3) = some (some 3) := rfl
  have e0 : eSeq (eFz (eCallU (r_pack 5) (aVal (eSl (eVar 1) (VH.ret none) (ePart (eC (.int 3)))) (aNil)))) [some (.sh (.int b)), some (.sh (.tuple (.int n :: .int v :: .tuple es :: rest))), none] = .ok ((pk (.tuple [.int n, .int v, .tuple es])).map .int) [some (.sh (.int b)), some (.sh (.tuple (.int n :: .int v :: .tuple es :: rest))), none] := by
    simp only [sSeq, sIf, eAnd, eOr, eNot, eB, bnd, eBin, eUn, eSub, eC, VH.ret, lift, eVar, eSh, eFz, sSet, sRet, sPut, sAsg, tgN, tgT, tgSeq, eAll, eCons, eNil, eAndV, eOrV, eNotV, eOfB, eIf, eIsN, eNotN, eNN, eNNo, eTru, sDo, sApp, sExt, sNext, oLst, oAdd, oIf, oList, eMov, eSl, ePart, eCallU, aNil, aVal, aBor, takeA, putA, List.getElem?_cons_zero, List.getElem?_cons_succ, List.set_cons_zero, List.set_cons_succ, Nat.reduceSub, Nat.reduceAdd, Nat.reduceLT, Nat.reduceLeDiff, Option.bind, Option.map, VH.keyOf, O.fzb, fz, blD, eM1, List.replicate, if_true, if_false, Bool.false_eq_true, decide_true, decide_false, beq_self_eq_true, Bool.not_true, Bool.not_false, and_self, and_true, true_and, Bool.or_true, Bool.true_or, Bool.or_false, Bool.false_or, Bool.and_true, Bool.and_false, ne_eq, not_false_eq_true, not_true_eq_false, reduceCtorEq, eSeq, i3, es', ep, itemsD]
  have eR : sRet (eSh (eVar 0)) [some (.sh (.int (SL b n v es))), some (.sh (.tuple (.int n :: .int v :: .tuple es :: rest))), u] = .ok (.ret (.sh (.int (SL b n v es)))) [some (.sh (.int (SL b n v es))), some (.sh (.tuple (.int n :: .int v :: .tuple es :: rest))), u] := by simp only [sSeq, sIf, eAnd, eOr, eNot, eB, bnd, eBin, eUn, eSub, eC, VH.ret, lift, eVar, eSh, eFz, sSet, sRet, sPut, sAsg, tgN, tgT, tgSeq, eAll, eCons, eNil, eAndV, eOrV, eNotV, eOfB, eIf, eIsN, eNotN, eNN, eNNo, eTru, sDo, sApp, sExt, sNext, oLst, oAdd, oIf, oList, eMov, eSl, ePart, eCallU, aNil, aVal, aBor, takeA, putA, List.getElem?_cons_zero, List.getElem?_cons_succ, List.set_cons_zero, List.set_cons_succ, Nat.reduceSub, Nat.reduceAdd, Nat.reduceLT, Nat.reduceLeDiff, Option.bind, Option.map, VH.keyOf, O.fzb, fz, blD, eM1, List.replicate, if_true, if_false, Bool.false_eq_true, decide_true, decide_false, beq_self_eq_true, Bool.not_true, Bool.not_false, and_self, and_true, true_and, Bool.or_true, Bool.true_or, Bool.or_false, Bool.false_or, Bool.and_true, Bool.and_false, ne_eq, not_false_eq_true, not_true_eq_false, reduceCtorEq]
  exact (run_ok (os := [.sh (.int b), .sh (.tuple (.int n :: .int v :: .tuple es :: rest))]) (tot := 3) (bs := bs__law_seal) ((seq_ok (for_ok e0 e)).trans eR)).trans (by rw [mask2])
/-! ### the log -/
structure Ent where
  n : Int
  v : Int
  es : List D
  s : Int
def eD (e : Ent) : D := .tuple [.int e.n, .int e.v, .tuple e.es, .int e.s]
def wD (w : Int × List D) : D := .tuple [.int w.1, .list w.2]
def en1 (k : Nat) (b : Int) (w : Int × List D) : Ent := ⟨k, w.1, w.2, SL b k w.1 w.2⟩
def logOf : Nat → Int → List (Int × List D) → List Ent
  | _, _, [] => []
  | k, b, w :: r => ⟨k, w.1, w.2, SL b k w.1 w.2⟩ :: logOf (k + 1) (SL b k w.1 w.2) r
theorem logOf_cons (k : Nat) (b : Int) (w : Int × List D) (ws : List (Int × List D)) : logOf k b (w :: ws) = en1 k b w :: logOf (k + 1) (SL b k w.1 w.2) ws := rfl
theorem eD_en (k : Nat) (b : Int) (w : Int × List D) : eD (en1 k b w) = .tuple [.int k, .int w.1, .tuple w.2, .int (SL b k w.1 w.2)] := rfl
def fbk : Nat → Int → List Ent → Option Nat
  | _, _, [] => none
  | k, b, e :: r => if e.n ≠ k ∨ e.s ≠ SL b e.n e.v e.es then some k else fbk (k + 1) (SL b e.n e.v e.es) r
theorem fbk_log : ∀ (ws : List (Int × List D)) (k : Nat) (b : Int), fbk k b (logOf k b ws) = none
  | [], _, _ => rfl
  | w :: r, k, b => by
    unfold logOf fbk
    simp only [ne_eq, not_true_eq_false, or_self, if_false]
    exact fbk_log r (k + 1) _
def zipP (k : Nat) (ds : List D) : List D := (ds.zipIdx k).map fun p => pairD p.2 p.1
theorem zipP_cons (k : Nat) (d : D) (ds : List D) : zipP k (d :: ds) = .tuple [.int k, d] :: zipP (k + 1) ds := by
  unfold zipP
  rw [List.zipIdx_cons, List.map_cons]; rfl
theorem tl (xs : List D) : tupOfD [.list xs] = some (.tuple xs) := rfl
theorem t4 (a b c d : D) : tupD [a, b, c, d] = some (.tuple [a, b, c, d]) := rfl
def r_sd : List O → Rs O := fnRun bs_sealed 6 (b_sealed r_so)
def sdB : En → Rs Fl := sSeq (sSet 2 (eSh (eFz (eCallU r_so (aVal (eVar 2) (aVal (eVar 3) (aVal (eVar 4) (aVal (eAll tupOfD (eCons (eVar 5) (eNil))) (aNil))))))))) (sApp 1 (eAll tupD (eCons (eVar 3) (eCons (eVar 4) (eCons (eAll tupOfD (eCons (eVar 5) (eNil))) (eCons (eVar 2) (eNil)))))))
abbrev sdT : Tg := tgT 2 [tgN 3, tgT 2 [tgN 4, tgN 5]]
theorem sd_loop (x : Option O) : ∀ (ws : List (Int × List D)) (k : Nat) (b : Int) (acc : List Ent) (u v z : Option O), (∀ w ∈ ws, Gt w.2) → acc.length + ws.length ≤ 1000 →
    ∃ b' u' v' z', loopS sdT sdB (zipP k (ws.map wD)) [x, some (.lst (acc.map eD)), some (.sh (.int b)), u, v, z] = .ok .nx [x, some (.lst ((acc ++ logOf k b ws).map eD)), some (.sh (.int b')), u', v', z']
  | [], k, b, acc, u, v, z, _, _ => ⟨b, u, v, z, by rw [show logOf k b [] = [] from rfl, List.append_nil]; rfl⟩
  | w :: ws, k, b, acc, u, v, z, hw, hl => by
    have hL := line_big
    have hl' : acc.length + (ws.length + 1) ≤ 1000 := hl
    have hq : acc.length < sizeLine := by omega
    obtain ⟨b', u', v', z', e⟩ := sd_loop x ws (k + 1) (SL b k w.1 w.2) (acc ++ [en1 k b w]) (some (.sh (.int k))) (some (.sh (.int w.1))) (some (.sh (.list w.2))) (fun y hy => hw y (List.mem_cons_of_mem _ hy)) (by simp; omega)
    refine ⟨b', u', v', z', ?_⟩
    have eg := so_ok b k w.1 (hw w List.mem_cons_self)
    have e1 : sdB [x, some (.lst (acc.map eD)), some (.sh (.int b)), some (.sh (.int k)), some (.sh (.int w.1)), some (.sh (.list w.2))] = .ok .nx [x, some (.lst ((acc ++ [en1 k b w]).map eD)), some (.sh (.int (SL b k w.1 w.2))), some (.sh (.int k)), some (.sh (.int w.1)), some (.sh (.list w.2))] := by
      unfold sdB
      simp only [sSeq, sIf, eAnd, eOr, eNot, eB, bnd, eBin, eUn, eSub, eC, VH.ret, lift, eVar, eSh, eFz, sSet, sRet, sPut, sAsg, tgN, tgT, tgSeq, eAll, eCons, eNil, eAndV, eOrV, eNotV, eOfB, eIf, eIsN, eNotN, eNN, eNNo, eTru, sDo, sApp, sExt, sNext, oLst, oAdd, oIf, oList, eMov, eSl, ePart, eCallU, aNil, aVal, aBor, takeA, putA, List.getElem?_cons_zero, List.getElem?_cons_succ, List.set_cons_zero, List.set_cons_succ, Nat.reduceSub, Nat.reduceAdd, Nat.reduceLT, Nat.reduceLeDiff, Option.bind, Option.map, VH.keyOf, O.fzb, fz, blD, eM1, List.replicate, if_true, if_false, Bool.false_eq_true, decide_true, decide_false, beq_self_eq_true, Bool.not_true, Bool.not_false, and_self, and_true, true_and, Bool.or_true, Bool.true_or, Bool.or_false, Bool.false_or, Bool.and_true, Bool.and_false, ne_eq, not_false_eq_true, not_true_eq_false, reduceCtorEq, tl, eg, t4, List.length_cons, List.length_nil, List.length_map, if_pos hq, List.map_append, List.map_cons (f := eD), List.map_nil, eD_en]
    have et : sdT (.tuple [.int k, wD w]) [x, some (.lst (acc.map eD)), some (.sh (.int b)), u, v, z] = some [x, some (.lst (acc.map eD)), some (.sh (.int b)), some (.sh (.int k)), some (.sh (.int w.1)), some (.sh (.list w.2))] := rfl
    rw [List.map_cons, zipP_cons, loop_cons et e1, e, logOf_cons, List.append_assoc, List.cons_append, List.nil_append]
theorem sd_ok (ws : List (Int × List D)) (hw : ∀ w ∈ ws, Gt w.2) (hl : ws.length ≤ 1000) : r_sd [.sh (.list (ws.map wD))] = .ok (.sh (.tuple ((logOf 0 17 ws).map eD))) [none] := by
  obtain ⟨b', u', v', z', e⟩ := sd_loop (some (.sh (.list (ws.map wD)))) ws 0 17 [] none none none hw (by simpa using hl)
  rw [List.nil_append] at e
  have e1 : sSet 1 (oLst (eNil)) [some (.sh (.list (ws.map wD))), none, none, none, none, none] = .ok .nx [some (.sh (.list (ws.map wD))), some (.lst []), none, none, none, none] := by simp only [sSeq, sIf, eAnd, eOr, eNot, eB, bnd, eBin, eUn, eSub, eC, VH.ret, lift, eVar, eSh, eFz, sSet, sRet, sPut, sAsg, tgN, tgT, tgSeq, eAll, eCons, eNil, eAndV, eOrV, eNotV, eOfB, eIf, eIsN, eNotN, eNN, eNNo, eTru, sDo, sApp, sExt, sNext, oLst, oAdd, oIf, oList, eMov, eSl, ePart, eCallU, aNil, aVal, aBor, takeA, putA, List.getElem?_cons_zero, List.getElem?_cons_succ, List.set_cons_zero, List.set_cons_succ, Nat.reduceSub, Nat.reduceAdd, Nat.reduceLT, Nat.reduceLeDiff, Option.bind, Option.map, VH.keyOf, O.fzb, fz, blD, eM1, List.replicate, if_true, if_false, Bool.false_eq_true, decide_true, decide_false, beq_self_eq_true, Bool.not_true, Bool.not_false, and_self, and_true, true_and, Bool.or_true, Bool.true_or, Bool.or_false, Bool.false_or, Bool.and_true, Bool.and_false, ne_eq, not_false_eq_true, not_true_eq_false, reduceCtorEq, List.length_cons, List.length_nil]
  have e2 : sSet 2 (eSh (eC (.int (17)))) [some (.sh (.list (ws.map wD))), some (.lst []), none, none, none, none] = .ok .nx [some (.sh (.list (ws.map wD))), some (.lst []), some (.sh (.int 17)), none, none, none] := by simp only [sSeq, sIf, eAnd, eOr, eNot, eB, bnd, eBin, eUn, eSub, eC, VH.ret, lift, eVar, eSh, eFz, sSet, sRet, sPut, sAsg, tgN, tgT, tgSeq, eAll, eCons, eNil, eAndV, eOrV, eNotV, eOfB, eIf, eIsN, eNotN, eNN, eNNo, eTru, sDo, sApp, sExt, sNext, oLst, oAdd, oIf, oList, eMov, eSl, ePart, eCallU, aNil, aVal, aBor, takeA, putA, List.getElem?_cons_zero, List.getElem?_cons_succ, List.set_cons_zero, List.set_cons_succ, Nat.reduceSub, Nat.reduceAdd, Nat.reduceLT, Nat.reduceLeDiff, Option.bind, Option.map, VH.keyOf, O.fzb, fz, blD, eM1, List.replicate, if_true, if_false, Bool.false_eq_true, decide_true, decide_false, beq_self_eq_true, Bool.not_true, Bool.not_false, and_self, and_true, true_and, Bool.or_true, Bool.true_or, Bool.or_false, Bool.false_or, Bool.and_true, Bool.and_false, ne_eq, not_false_eq_true, not_true_eq_false, reduceCtorEq, List.length_cons, List.length_nil]
  have e3 : eEnum (eVar 0) [some (.sh (.list (ws.map wD))), some (.lst []), some (.sh (.int 17)), none, none, none] = .ok (zipP 0 (ws.map wD)) [some (.sh (.list (ws.map wD))), some (.lst []), some (.sh (.int 17)), none, none, none] := by
    simp only [sSeq, sIf, eAnd, eOr, eNot, eB, bnd, eBin, eUn, eSub, eC, VH.ret, lift, eVar, eSh, eFz, sSet, sRet, sPut, sAsg, tgN, tgT, tgSeq, eAll, eCons, eNil, eAndV, eOrV, eNotV, eOfB, eIf, eIsN, eNotN, eNN, eNNo, eTru, sDo, sApp, sExt, sNext, oLst, oAdd, oIf, oList, eMov, eSl, ePart, eCallU, aNil, aVal, aBor, takeA, putA, List.getElem?_cons_zero, List.getElem?_cons_succ, List.set_cons_zero, List.set_cons_succ, Nat.reduceSub, Nat.reduceAdd, Nat.reduceLT, Nat.reduceLeDiff, Option.bind, Option.map, VH.keyOf, O.fzb, fz, blD, eM1, List.replicate, if_true, if_false, Bool.false_eq_true, decide_true, decide_false, beq_self_eq_true, Bool.not_true, Bool.not_false, and_self, and_true, true_and, Bool.or_true, Bool.true_or, Bool.or_false, Bool.false_or, Bool.and_true, Bool.and_false, ne_eq, not_false_eq_true, not_true_eq_false, reduceCtorEq, eEnum, enumD]
    rfl
  have eR : sRet (eSh (eAll tupOfD (eCons (eVar 1) (eNil)))) [some (.sh (.list (ws.map wD))), some (.lst ((logOf 0 17 ws).map eD)), some (.sh (.int b')), u', v', z'] = .ok (.ret (.sh (.tuple ((logOf 0 17 ws).map eD)))) [some (.sh (.list (ws.map wD))), some (.sh (.list ((logOf 0 17 ws).map eD))), some (.sh (.int b')), u', v', z'] := by simp only [sSeq, sIf, eAnd, eOr, eNot, eB, bnd, eBin, eUn, eSub, eC, VH.ret, lift, eVar, eSh, eFz, sSet, sRet, sPut, sAsg, tgN, tgT, tgSeq, eAll, eCons, eNil, eAndV, eOrV, eNotV, eOfB, eIf, eIsN, eNotN, eNN, eNNo, eTru, sDo, sApp, sExt, sNext, oLst, oAdd, oIf, oList, eMov, eSl, ePart, eCallU, aNil, aVal, aBor, takeA, putA, List.getElem?_cons_zero, List.getElem?_cons_succ, List.set_cons_zero, List.set_cons_succ, Nat.reduceSub, Nat.reduceAdd, Nat.reduceLT, Nat.reduceLeDiff, Option.bind, Option.map, VH.keyOf, O.fzb, fz, blD, eM1, List.replicate, if_true, if_false, Bool.false_eq_true, decide_true, decide_false, beq_self_eq_true, Bool.not_true, Bool.not_false, and_self, and_true, true_and, Bool.or_true, Bool.true_or, Bool.or_false, Bool.false_or, Bool.and_true, Bool.and_false, ne_eq, not_false_eq_true, not_true_eq_false, reduceCtorEq, tl]
  exact (run_ok (os := [.sh (.list (ws.map wD))]) (tot := 6) (bs := bs_sealed) ((seq_ok e1).trans ((seq_ok e2).trans ((seq_ok (for_ok e3 e)).trans eR)))).trans (by rw [mask1])
end K86
set_option Elab.async false
set_option linter.all false
set_option maxRecDepth 100000
set_option maxHeartbeats 4000000
namespace K86
open PySem PySem.Spec PyProof.Rows L2 VH
def oN : Option Nat → D
  | none => .none
  | some k => .int k
/-! ### first_break -/
def r_fb : List O → Rs O := fnRun bs_first_break 7 (b_first_break r_so)
def fbB : En → Rs Fl := sSeq (sSet 1 (eSh (eFz (eCallU r_so (aVal (eVar 1) (aVal (eVar 3) (aVal (eVar 4) (aVal (eVar 5) (aNil))))))))) (sIf (eOr (eB (eBin neD (eVar 3) (eVar 2))) (eB (eBin neD (eVar 6) (eVar 1)))) (sRet (eSh (eVar 2))) (sNext))
abbrev fbT : Tg := tgT 2 [tgN 2, tgT 4 [tgN 3, tgN 4, tgN 5, tgN 6]]
theorem ne_ii (a b : Int) : neD (.int a) (.int b) = some (.bool (!(a == b))) := rfl
theorem fb_body (x : Option O) (k : Nat) (b : Int) (e : Ent) (h : Gt e.es) : fbB [x, some (.sh (.int b)), some (.sh (.int k)), some (.sh (.int e.n)), some (.sh (.int e.v)), some (.sh (.tuple e.es)), some (.sh (.int e.s))] =
    .ok (if e.n ≠ k ∨ e.s ≠ SL b e.n e.v e.es then .ret (.sh (.int k)) else .nx) [x, some (.sh (.int (SL b e.n e.v e.es))), some (.sh (.int k)), some (.sh (.int e.n)), some (.sh (.int e.v)), some (.sh (.tuple e.es)), some (.sh (.int e.s))] := by
  have eg := so_ok b e.n e.v h
  generalize SL b e.n e.v e.es = z at eg ⊢
  unfold fbB
  by_cases h1 : e.n = k
  · have q1 : (e.n == (k : Int)) = true := by simp [h1]
    by_cases h2 : e.s = z
    · have q2 : (e.s == z) = true := by simp [h2]
      have q3 : ¬ (e.n ≠ k ∨ e.s ≠ z) := by simp [h1, h2]
      rw [if_neg q3]
      simp only [sSeq, sIf, eAnd, eOr, eNot, eB, bnd, eBin, eUn, eSub, eC, VH.ret, lift, eVar, eSh, eFz, sSet, sRet, sPut, sAsg, tgN, tgT, tgSeq, eAll, eCons, eNil, eAndV, eOrV, eNotV, eOfB, eIf, eIsN, eNotN, eNN, eNNo, eTru, sDo, sApp, sExt, sNext, oLst, oAdd, oIf, oList, eMov, eSl, ePart, eCallU, aNil, aVal, aBor, takeA, putA, List.getElem?_cons_zero, List.getElem?_cons_succ, List.set_cons_zero, List.set_cons_succ, Nat.reduceSub, Nat.reduceAdd, Nat.reduceLT, Nat.reduceLeDiff, Option.bind, Option.map, VH.keyOf, O.fzb, fz, blD, eM1, List.replicate, if_true, if_false, Bool.false_eq_true, decide_true, decide_false, beq_self_eq_true, Bool.not_true, Bool.not_false, and_self, and_true, true_and, Bool.or_true, Bool.true_or, Bool.or_false, Bool.false_or, Bool.and_true, Bool.and_false, ne_eq, not_false_eq_true, not_true_eq_false, reduceCtorEq, eg, ne_ii, q1, q2, List.length_cons, List.length_nil]
    · have q2 : (e.s == z) = false := by simp [h2]
      have q3 : (e.n ≠ k ∨ e.s ≠ z) := .inr h2
      rw [if_pos q3]
      simp only [sSeq, sIf, eAnd, eOr, eNot, eB, bnd, eBin, eUn, eSub, eC, VH.ret, lift, eVar, eSh, eFz, sSet, sRet, sPut, sAsg, tgN, tgT, tgSeq, eAll, eCons, eNil, eAndV, eOrV, eNotV, eOfB, eIf, eIsN, eNotN, eNN, eNNo, eTru, sDo, sApp, sExt, sNext, oLst, oAdd, oIf, oList, eMov, eSl, ePart, eCallU, aNil, aVal, aBor, takeA, putA, List.getElem?_cons_zero, List.getElem?_cons_succ, List.set_cons_zero, List.set_cons_succ, Nat.reduceSub, Nat.reduceAdd, Nat.reduceLT, Nat.reduceLeDiff, Option.bind, Option.map, VH.keyOf, O.fzb, fz, blD, eM1, List.replicate, if_true, if_false, Bool.false_eq_true, decide_true, decide_false, beq_self_eq_true, Bool.not_true, Bool.not_false, and_self, and_true, true_and, Bool.or_true, Bool.true_or, Bool.or_false, Bool.false_or, Bool.and_true, Bool.and_false, ne_eq, not_false_eq_true, not_true_eq_false, reduceCtorEq, eg, ne_ii, q1, q2, List.length_cons, List.length_nil]
  · have q1 : (e.n == (k : Int)) = false := by simp [h1]
    have q3 : (e.n ≠ k ∨ e.s ≠ z) := .inl h1
    rw [if_pos q3]
    simp only [sSeq, sIf, eAnd, eOr, eNot, eB, bnd, eBin, eUn, eSub, eC, VH.ret, lift, eVar, eSh, eFz, sSet, sRet, sPut, sAsg, tgN, tgT, tgSeq, eAll, eCons, eNil, eAndV, eOrV, eNotV, eOfB, eIf, eIsN, eNotN, eNN, eNNo, eTru, sDo, sApp, sExt, sNext, oLst, oAdd, oIf, oList, eMov, eSl, ePart, eCallU, aNil, aVal, aBor, takeA, putA, List.getElem?_cons_zero, List.getElem?_cons_succ, List.set_cons_zero, List.set_cons_succ, Nat.reduceSub, Nat.reduceAdd, Nat.reduceLT, Nat.reduceLeDiff, Option.bind, Option.map, VH.keyOf, O.fzb, fz, blD, eM1, List.replicate, if_true, if_false, Bool.false_eq_true, decide_true, decide_false, beq_self_eq_true, Bool.not_true, Bool.not_false, and_self, and_true, true_and, Bool.or_true, Bool.true_or, Bool.or_false, Bool.false_or, Bool.and_true, Bool.and_false, ne_eq, not_false_eq_true, not_true_eq_false, reduceCtorEq, eg, ne_ii, q1, List.length_cons, List.length_nil]
def endS (o : Option Nat) (env : En) : Rs Fl := match o with
  | none => .ok .nx env
  | some k => .ok (.ret (.sh (.int k))) env
theorem loop_ret {tg : Tg} {body : En → Rs Fl} {d : D} {ds : List D} {env env1 env2 : En} {o : O} (h1 : tg d env = some env1) (h2 : body env1 = .ok (.ret o) env2) : loopS tg body (d :: ds) env = .ok (.ret o) env2 := by
  rw [loopS]
  simp only [h1, h2]
theorem fb_loop (x : Option O) : ∀ (l : List Ent) (k : Nat) (b : Int) (u2 u3 u4 u5 u6 : Option O), (∀ e ∈ l, Gt e.es) →
    ∃ env, loopS fbT fbB (zipP k (l.map eD)) [x, some (.sh (.int b)), u2, u3, u4, u5, u6] = endS (fbk k b l) env
  | [], k, b, _, _, _, _, _, _ => ⟨_, rfl⟩
  | e :: l, k, b, u2, u3, u4, u5, u6, h => by
    have et : fbT (.tuple [.int k, eD e]) [x, some (.sh (.int b)), u2, u3, u4, u5, u6] = some [x, some (.sh (.int b)), some (.sh (.int k)), some (.sh (.int e.n)), some (.sh (.int e.v)), some (.sh (.tuple e.es)), some (.sh (.int e.s))] := rfl
    have eb := fb_body x k b e (h e List.mem_cons_self)
    rw [List.map_cons, zipP_cons, fbk]
    by_cases q : e.n ≠ k ∨ e.s ≠ SL b e.n e.v e.es
    · rw [if_pos q] at eb ⊢
      exact ⟨_, loop_ret et eb⟩
    · rw [if_neg q] at eb ⊢
      rw [loop_cons et eb]
      exact fb_loop x l (k + 1) _ _ _ _ _ _ fun y hy => h y (List.mem_cons_of_mem _ hy)
theorem seq_ret {f g : En → Rs Fl} {env e : En} {o : O} (h : f env = .ok (.ret o) e) : sSeq f g env = .ok (.ret o) e := by unfold sSeq; rw [h]
theorem run_ex {b : En → Rs Fl} {tot : Nat} {o : O} {d : O} (h : ∃ env, b ([d].map some ++ List.replicate (tot - 1) none) = .ok (.ret o) env) : fnRun [false] tot b [d] = .ok o [none] := by
  obtain ⟨env, h⟩ := h
  exact (run_ok (os := [d]) (bs := [false]) h).trans (by rw [mask1])
theorem end_seq {f g : En → Rs Fl} {env : En} {o : Option Nat} (h : ∃ e, f env = endS o e) (hg : ∀ e, ∃ e', g e = .ok (.ret (.sh .none)) e') : ∃ e, sSeq f g env = .ok (.ret (.sh (oN o))) e := by
  obtain ⟨e, h⟩ := h
  cases o with
  | none =>
    obtain ⟨e', h2⟩ := hg e
    exact ⟨e', (seq_ok h).trans h2⟩
  | some k => exact ⟨e, seq_ret h⟩
theorem fb_ok (l : List Ent) (h : ∀ e ∈ l, Gt e.es) : r_fb [.sh (.tuple (l.map eD))] = .ok (.sh (oN (fbk 0 17 l))) [none] := by
  refine run_ex ?_
  have e1 : sSet 1 (eSh (eC (.int (17)))) [some (.sh (.tuple (l.map eD))), none, none, none, none, none, none] = .ok .nx [some (.sh (.tuple (l.map eD))), some (.sh (.int 17)), none, none, none, none, none] := by simp only [sSeq, sIf, eAnd, eOr, eNot, eB, bnd, eBin, eUn, eSub, eC, VH.ret, lift, eVar, eSh, eFz, sSet, sRet, sPut, sAsg, tgN, tgT, tgSeq, eAll, eCons, eNil, eAndV, eOrV, eNotV, eOfB, eIf, eIsN, eNotN, eNN, eNNo, eTru, sDo, sApp, sExt, sNext, oLst, oAdd, oIf, oList, eMov, eSl, ePart, eCallU, aNil, aVal, aBor, takeA, putA, List.getElem?_cons_zero, List.getElem?_cons_succ, List.set_cons_zero, List.set_cons_succ, Nat.reduceSub, Nat.reduceAdd, Nat.reduceLT, Nat.reduceLeDiff, Option.bind, Option.map, VH.keyOf, O.fzb, fz, blD, eM1, List.replicate, if_true, if_false, Bool.false_eq_true, decide_true, decide_false, beq_self_eq_true, Bool.not_true, Bool.not_false, and_self, and_true, true_and, Bool.or_true, Bool.true_or, Bool.or_false, Bool.false_or, Bool.and_true, Bool.and_false, ne_eq, not_false_eq_true, not_true_eq_false, reduceCtorEq, List.length_cons, List.length_nil]
  have e3 : eEnum (eVar 0) [some (.sh (.tuple (l.map eD))), some (.sh (.int 17)), none, none, none, none, none] = .ok (zipP 0 (l.map eD)) [some (.sh (.tuple (l.map eD))), some (.sh (.int 17)), none, none, none, none, none] := by
    simp only [sSeq, sIf, eAnd, eOr, eNot, eB, bnd, eBin, eUn, eSub, eC, VH.ret, lift, eVar, eSh, eFz, sSet, sRet, sPut, sAsg, tgN, tgT, tgSeq, eAll, eCons, eNil, eAndV, eOrV, eNotV, eOfB, eIf, eIsN, eNotN, eNN, eNNo, eTru, sDo, sApp, sExt, sNext, oLst, oAdd, oIf, oList, eMov, eSl, ePart, eCallU, aNil, aVal, aBor, takeA, putA, List.getElem?_cons_zero, List.getElem?_cons_succ, List.set_cons_zero, List.set_cons_succ, Nat.reduceSub, Nat.reduceAdd, Nat.reduceLT, Nat.reduceLeDiff, Option.bind, Option.map, VH.keyOf, O.fzb, fz, blD, eM1, List.replicate, if_true, if_false, Bool.false_eq_true, decide_true, decide_false, beq_self_eq_true, Bool.not_true, Bool.not_false, and_self, and_true, true_and, Bool.or_true, Bool.true_or, Bool.or_false, Bool.false_or, Bool.and_true, Bool.and_false, ne_eq, not_false_eq_true, not_true_eq_false, reduceCtorEq, eEnum, enumD]
    rfl
  obtain ⟨env, e⟩ := fb_loop (some (.sh (.tuple (l.map eD)))) l 0 17 none none none none none h
  obtain ⟨e', h'⟩ := end_seq (f := sFor (eEnum (eVar 0)) fbT fbB) (g := sRet (eSh (eC .none))) (env := [some (.sh (.tuple (l.map eD))), some (.sh (.int 17)), none, none, none, none, none]) (o := fbk 0 17 l) ⟨env, for_ok e3 e⟩ fun e => ⟨e, by simp only [sSeq, sIf, eAnd, eOr, eNot, eB, bnd, eBin, eUn, eSub, eC, VH.ret, lift, eVar, eSh, eFz, sSet, sRet, sPut, sAsg, tgN, tgT, tgSeq, eAll, eCons, eNil, eAndV, eOrV, eNotV, eOfB, eIf, eIsN, eNotN, eNN, eNNo, eTru, sDo, sApp, sExt, sNext, oLst, oAdd, oIf, oList, eMov, eSl, ePart, eCallU, aNil, aVal, aBor, takeA, putA, List.getElem?_cons_zero, List.getElem?_cons_succ, List.set_cons_zero, List.set_cons_succ, Nat.reduceSub, Nat.reduceAdd, Nat.reduceLT, Nat.reduceLeDiff, Option.bind, Option.map, VH.keyOf, O.fzb, fz, blD, eM1, List.replicate, if_true, if_false, Bool.false_eq_true, decide_true, decide_false, beq_self_eq_true, Bool.not_true, Bool.not_false, and_self, and_true, true_and, Bool.or_true, Bool.true_or, Bool.or_false, Bool.false_or, Bool.and_true, Bool.and_false, ne_eq, not_false_eq_true, not_true_eq_false, reduceCtorEq]⟩
  exact ⟨e', (seq_ok e1).trans h'⟩
/-! ### _law_break -/
def r_lb : List O → Rs O := fnRun bs__law_break 4 (b__law_break r_ls)
def lbB : En → Rs Fl := sSeq (sSet 3 (eSh (eFz (eCallU r_ls (aVal (eVar 1) (aVal (eSub 0 (eVar 2)) (aNil))))))) (sSeq (sIf (eOr (eB (eBin neD (eBin idxD (eSub 0 (eVar 2)) (eC (.int 0))) (eVar 2))) (eB (eBin neD (eBin idxD (eSub 0 (eVar 2)) (eC (.int 3))) (eVar 3)))) (sRet (eSh (eVar 2))) (sNext)) (sSet 1 (eSh (eVar 3))))
theorem i0 (e : Ent) : idxD (eD e) (.int 0) = some (.int e.n) := rfl
theorem i3 (e : Ent) : idxD (eD e) (.int 3) = some (.int e.s) := rfl
theorem lb_body (L : List D) (u3 : Option O) (k : Nat) (b : Int) (e : Ent) (h : Gt e.es) (ha : idxD (.tuple L) (.int k) = some (eD e)) : lbB [some (.sh (.tuple L)), some (.sh (.int b)), some (.sh (.int k)), u3] =
    (if e.n ≠ k ∨ e.s ≠ SL b e.n e.v e.es then .ok (.ret (.sh (.int k))) [some (.sh (.tuple L)), some (.sh (.int b)), some (.sh (.int k)), some (.sh (.int (SL b e.n e.v e.es)))] else .ok .nx [some (.sh (.tuple L)), some (.sh (.int (SL b e.n e.v e.es))), some (.sh (.int k)), some (.sh (.int (SL b e.n e.v e.es)))]) := by
  have eg : r_ls [.sh (.int b), .sh (eD e)] = _ := ls_ok b e.n e.v (rest := [.int e.s]) (.inr ⟨_, rfl⟩) h
  generalize SL b e.n e.v e.es = z at eg ⊢
  unfold lbB
  by_cases h1 : e.n = k
  · have q1 : (e.n == (k : Int)) = true := by simp [h1]
    by_cases h2 : e.s = z
    · have q2 : (e.s == z) = true := by simp [h2]
      have q3 : ¬ (e.n ≠ k ∨ e.s ≠ z) := by simp [h1, h2]
      rw [if_neg q3]
      simp only [sSeq, sIf, eAnd, eOr, eNot, eB, bnd, eBin, eUn, eSub, eC, VH.ret, lift, eVar, eSh, eFz, sSet, sRet, sPut, sAsg, tgN, tgT, tgSeq, eAll, eCons, eNil, eAndV, eOrV, eNotV, eOfB, eIf, eIsN, eNotN, eNN, eNNo, eTru, sDo, sApp, sExt, sNext, oLst, oAdd, oIf, oList, eMov, eSl, ePart, eCallU, aNil, aVal, aBor, takeA, putA, List.getElem?_cons_zero, List.getElem?_cons_succ, List.set_cons_zero, List.set_cons_succ, Nat.reduceSub, Nat.reduceAdd, Nat.reduceLT, Nat.reduceLeDiff, Option.bind, Option.map, VH.keyOf, O.fzb, fz, blD, eM1, List.replicate, if_true, if_false, Bool.false_eq_true, decide_true, decide_false, beq_self_eq_true, Bool.not_true, Bool.not_false, and_self, and_true, true_and, Bool.or_true, Bool.true_or, Bool.or_false, Bool.false_or, Bool.and_true, Bool.and_false, ne_eq, not_false_eq_true, not_true_eq_false, reduceCtorEq, ha, eg, i0, i3, ne_ii, q1, q2, List.length_cons, List.length_nil]
    · have q2 : (e.s == z) = false := by simp [h2]
      have q3 : (e.n ≠ k ∨ e.s ≠ z) := .inr h2
      rw [if_pos q3]
      simp only [sSeq, sIf, eAnd, eOr, eNot, eB, bnd, eBin, eUn, eSub, eC, VH.ret, lift, eVar, eSh, eFz, sSet, sRet, sPut, sAsg, tgN, tgT, tgSeq, eAll, eCons, eNil, eAndV, eOrV, eNotV, eOfB, eIf, eIsN, eNotN, eNN, eNNo, eTru, sDo, sApp, sExt, sNext, oLst, oAdd, oIf, oList, eMov, eSl, ePart, eCallU, aNil, aVal, aBor, takeA, putA, List.getElem?_cons_zero, List.getElem?_cons_succ, List.set_cons_zero, List.set_cons_succ, Nat.reduceSub, Nat.reduceAdd, Nat.reduceLT, Nat.reduceLeDiff, Option.bind, Option.map, VH.keyOf, O.fzb, fz, blD, eM1, List.replicate, if_true, if_false, Bool.false_eq_true, decide_true, decide_false, beq_self_eq_true, Bool.not_true, Bool.not_false, and_self, and_true, true_and, Bool.or_true, Bool.true_or, Bool.or_false, Bool.false_or, Bool.and_true, Bool.and_false, ne_eq, not_false_eq_true, not_true_eq_false, reduceCtorEq, ha, eg, i0, i3, ne_ii, q1, q2, List.length_cons, List.length_nil]
  · have q1 : (e.n == (k : Int)) = false := by simp [h1]
    have q3 : (e.n ≠ k ∨ e.s ≠ z) := .inl h1
    rw [if_pos q3]
    simp only [sSeq, sIf, eAnd, eOr, eNot, eB, bnd, eBin, eUn, eSub, eC, VH.ret, lift, eVar, eSh, eFz, sSet, sRet, sPut, sAsg, tgN, tgT, tgSeq, eAll, eCons, eNil, eAndV, eOrV, eNotV, eOfB, eIf, eIsN, eNotN, eNN, eNNo, eTru, sDo, sApp, sExt, sNext, oLst, oAdd, oIf, oList, eMov, eSl, ePart, eCallU, aNil, aVal, aBor, takeA, putA, List.getElem?_cons_zero, List.getElem?_cons_succ, List.set_cons_zero, List.set_cons_succ, Nat.reduceSub, Nat.reduceAdd, Nat.reduceLT, Nat.reduceLeDiff, Option.bind, Option.map, VH.keyOf, O.fzb, fz, blD, eM1, List.replicate, if_true, if_false, Bool.false_eq_true, decide_true, decide_false, beq_self_eq_true, Bool.not_true, Bool.not_false, and_self, and_true, true_and, Bool.or_true, Bool.true_or, Bool.or_false, Bool.false_or, Bool.and_true, Bool.and_false, ne_eq, not_false_eq_true, not_true_eq_false, reduceCtorEq, ha, eg, i0, i3, ne_ii, q1, List.length_cons, List.length_nil]
theorem rngL_succ (lo : Int) (n : Nat) : rngL lo (n + 1) = .int lo :: rngL (lo + 1) n := by
  unfold rngL
  rw [List.range_succ_eq_map, List.map_cons, List.map_map]
  congr 1
  · simp
  · apply List.map_congr_left
    intro i _
    simp only [Function.comp, Nat.succ_eq_add_one, Int.natCast_add, Int.natCast_one]
    congr 1
    omega
theorem idx_at {pre suf : List D} {d : D} : idxD (.tuple (pre ++ d :: suf)) (.int pre.length) = some d := by
  show atI _ _ = _
  rw [atI_in (by simp)]
  simp
theorem idx_atL {pre suf : List D} {d : D} : idxD (.list (pre ++ d :: suf)) (.int pre.length) = some d := by
  show atI _ _ = _
  rw [atI_in (by simp)]
  simp
theorem lb_loop (L : List D) : ∀ (l : List Ent) (pre : List D) (b : Int) (u2 u3 : Option O), L = pre ++ l.map eD → (∀ e ∈ l, Gt e.es) →
    ∃ env, loopS (tgN 2) lbB (rngL pre.length l.length) [some (.sh (.tuple L)), some (.sh (.int b)), u2, u3] = endS (fbk pre.length b l) env
  | [], pre, b, _, _, _, _ => ⟨_, rfl⟩
  | e :: l, pre, b, u2, u3, hL, h => by
    have et : tgN 2 (.int pre.length) [some (.sh (.tuple L)), some (.sh (.int b)), u2, u3] = some [some (.sh (.tuple L)), some (.sh (.int b)), some (.sh (.int pre.length)), u3] := rfl
    have eb := lb_body L u3 pre.length b e (h e List.mem_cons_self) (by rw [hL, List.map_cons]; exact idx_at)
    rw [List.length_cons, rngL_succ, fbk]
    by_cases q : e.n ≠ pre.length ∨ e.s ≠ SL b e.n e.v e.es
    · rw [if_pos q] at eb ⊢
      exact ⟨_, loop_ret et eb⟩
    · rw [if_neg q] at eb ⊢
      rw [loop_cons et eb]
      obtain ⟨env, e2⟩ := lb_loop L l (pre ++ [eD e]) (SL b e.n e.v e.es) (some (.sh (.int pre.length))) (some (.sh (.int (SL b e.n e.v e.es)))) (by rw [hL]; simp) fun y hy => h y (List.mem_cons_of_mem _ hy)
      refine ⟨env, ?_⟩
      rw [List.length_append, List.length_singleton, Int.natCast_add, Int.natCast_one] at e2
      exact e2
theorem e_rng_len {d : D} {z : Int} {items : List D} (h2 : VH.lenD [d] = some (.int z)) (h3 : rng1D (.int z) = some items) (r : En) : eRng (eAll VH.lenD (eCons (eVar 0) (eNil))) (some (.sh d) :: r) = .ok items (some (.sh d) :: r) := by
  simp only [sSeq, sIf, eAnd, eOr, eNot, eB, bnd, eBin, eUn, eSub, eC, VH.ret, lift, eVar, eSh, eFz, sSet, sRet, sPut, sAsg, tgN, tgT, tgSeq, eAll, eCons, eNil, eAndV, eOrV, eNotV, eOfB, eIf, eIsN, eNotN, eNN, eNNo, eTru, sDo, sApp, sExt, sNext, oLst, oAdd, oIf, oList, eMov, eSl, ePart, eCallU, aNil, aVal, aBor, takeA, putA, List.getElem?_cons_zero, List.getElem?_cons_succ, List.set_cons_zero, List.set_cons_succ, Nat.reduceSub, Nat.reduceAdd, Nat.reduceLT, Nat.reduceLeDiff, Option.bind, Option.map, VH.keyOf, O.fzb, fz, blD, eM1, List.replicate, if_true, if_false, Bool.false_eq_true, decide_true, decide_false, beq_self_eq_true, Bool.not_true, Bool.not_false, and_self, and_true, true_and, Bool.or_true, Bool.true_or, Bool.or_false, Bool.false_or, Bool.and_true, Bool.and_false, ne_eq, not_false_eq_true, not_true_eq_false, reduceCtorEq, eRng, h2, h3]
theorem lb_loop0 (L : List D) (l : List Ent) (b : Int) (u2 u3 : Option O) (hL : L = l.map eD) (h : ∀ e ∈ l, Gt e.es) :
    ∃ env, loopS (tgN 2) lbB (rngL 0 l.length) [some (.sh (.tuple L)), some (.sh (.int b)), u2, u3] = endS (fbk 0 b l) env := by
  obtain ⟨env, e⟩ := lb_loop L l [] b u2 u3 hL h
  refine ⟨env, ?_⟩
  rw [List.length_nil, Int.natCast_zero] at e
  exact e
theorem lb_ok (l : List Ent) (hl : l.length ≤ 1000) (h : ∀ e ∈ l, Gt e.es) : r_lb [.sh (.tuple (l.map eD))] = .ok (.sh (oN (fbk 0 17 l))) [none] := by
  refine run_ex ?_
  have e1 : sSet 1 (eSh (eC (.int (17)))) [some (.sh (.tuple (l.map eD))), none, none, none] = .ok .nx [some (.sh (.tuple (l.map eD))), some (.sh (.int 17)), none, none] := by simp only [sSeq, sIf, eAnd, eOr, eNot, eB, bnd, eBin, eUn, eSub, eC, VH.ret, lift, eVar, eSh, eFz, sSet, sRet, sPut, sAsg, tgN, tgT, tgSeq, eAll, eCons, eNil, eAndV, eOrV, eNotV, eOfB, eIf, eIsN, eNotN, eNN, eNNo, eTru, sDo, sApp, sExt, sNext, oLst, oAdd, oIf, oList, eMov, eSl, ePart, eCallU, aNil, aVal, aBor, takeA, putA, List.getElem?_cons_zero, List.getElem?_cons_succ, List.set_cons_zero, List.set_cons_succ, Nat.reduceSub, Nat.reduceAdd, Nat.reduceLT, Nat.reduceLeDiff, Option.bind, Option.map, VH.keyOf, O.fzb, fz, blD, eM1, List.replicate, if_true, if_false, Bool.false_eq_true, decide_true, decide_false, beq_self_eq_true, Bool.not_true, Bool.not_false, and_self, and_true, true_and, Bool.or_true, Bool.true_or, Bool.or_false, Bool.false_or, Bool.and_true, Bool.and_false, ne_eq, not_false_eq_true, not_true_eq_false, reduceCtorEq, List.length_cons, List.length_nil]
  have t2 : VH.lenD [.tuple (l.map eD)] = some (.int l.length) := by
    show some (PyData.int (l.map eD).length) = _
    rw [List.length_map]
  have t3 := tb_rng (k := l.length) hl
  have e3 : eRng (eAll VH.lenD (eCons (eVar 0) (eNil))) [some (.sh (.tuple (l.map eD))), some (.sh (.int 17)), none, none] = .ok (rngL 0 (l.length : Int).toNat) [some (.sh (.tuple (l.map eD))), some (.sh (.int 17)), none, none] := by
    exact e_rng_len t2 t3 _
  obtain ⟨env, e⟩ := lb_loop0 (l.map eD) l 17 none none rfl h
  obtain ⟨e', h'⟩ := end_seq (f := sFor (eRng (eAll VH.lenD (eCons (eVar 0) (eNil)))) (tgN 2) lbB) (g := sRet (eSh (eC .none))) (env := [some (.sh (.tuple (l.map eD))), some (.sh (.int 17)), none, none]) (o := fbk 0 17 l) ⟨env, for_ok e3 (by rw [Int.toNat_natCast]; exact e)⟩ fun e => ⟨e, by simp only [sSeq, sIf, eAnd, eOr, eNot, eB, bnd, eBin, eUn, eSub, eC, VH.ret, lift, eVar, eSh, eFz, sSet, sRet, sPut, sAsg, tgN, tgT, tgSeq, eAll, eCons, eNil, eAndV, eOrV, eNotV, eOfB, eIf, eIsN, eNotN, eNN, eNNo, eTru, sDo, sApp, sExt, sNext, oLst, oAdd, oIf, oList, eMov, eSl, ePart, eCallU, aNil, aVal, aBor, takeA, putA, List.getElem?_cons_zero, List.getElem?_cons_succ, List.set_cons_zero, List.set_cons_succ, Nat.reduceSub, Nat.reduceAdd, Nat.reduceLT, Nat.reduceLeDiff, Option.bind, Option.map, VH.keyOf, O.fzb, fz, blD, eM1, List.replicate, if_true, if_false, Bool.false_eq_true, decide_true, decide_false, beq_self_eq_true, Bool.not_true, Bool.not_false, and_self, and_true, true_and, Bool.or_true, Bool.true_or, Bool.or_false, Bool.false_or, Bool.and_true, Bool.and_false, ne_eq, not_false_eq_true, not_true_eq_false, reduceCtorEq]⟩
  exact ⟨e', (seq_ok e1).trans h'⟩
theorem r_lb_eq : r_lb = fnRun bs__law_break 4 (b__law_break r_ls) := rfl
end K86
set_option Elab.async false
set_option linter.all false
set_option maxRecDepth 100000
set_option maxHeartbeats 4000000
namespace K86
open PySem PySem.Spec PyProof.Rows L2 VH
/-! ### _law_same, of a thing with itself -/
def r_li : List O → Rs O := fnRun bs__law_is_integer 1 b__law_is_integer
def r_same : Nat → List O → Rs O
  | 0 => fun _ => .bad
  | n + 1 => fnRun bs__law_same 3 (b__law_same r_li (fnRun bs__law_same_items 3 (b__law_same_items (r_same n))))
def r_si (n : Nat) : List O → Rs O := fnRun bs__law_same_items 3 (b__law_same_items (r_same n))
theorem li_ok (i : Int) : r_li [.sh (.int i)] = .ok (.sh (.bool true)) [none] := by
  refine run_ok (os := [.sh (.int i)]) (tot := 1) (bs := bs__law_is_integer) (env := [some (.sh (.int i))]) ?_
  unfold b__law_is_integer
  simp only [sSeq, sIf, eAnd, eOr, eNot, eB, bnd, eBin, eUn, eSub, eC, VH.ret, lift, eVar, eSh, eFz, sSet, sRet, sPut, sAsg, tgN, tgT, tgSeq, eAll, eCons, eNil, eAndV, eOrV, eNotV, eOfB, eIf, eIsN, eNotN, eNN, eNNo, eTru, sDo, sApp, sExt, sNext, oLst, oAdd, oIf, oList, eMov, eSl, ePart, eCallU, aNil, aVal, aBor, takeA, putA, List.getElem?_cons_zero, List.getElem?_cons_succ, List.set_cons_zero, List.set_cons_succ, Nat.reduceSub, Nat.reduceAdd, Nat.reduceLT, Nat.reduceLeDiff, Option.bind, Option.map, VH.keyOf, O.fzb, fz, blD, eM1, List.replicate, if_true, if_false, Bool.false_eq_true, decide_true, decide_false, beq_self_eq_true, Bool.not_true, Bool.not_false, and_self, and_true, true_and, Bool.or_true, Bool.true_or, Bool.or_false, Bool.false_or, Bool.and_true, Bool.and_false, ne_eq, not_false_eq_true, not_true_eq_false, reduceCtorEq, vi_int, vi_bool, truD, List.map_cons, List.map_nil, List.length_cons, List.length_nil, List.cons_append, List.nil_append]
def siB (n : Nat) : En → Rs Fl := sIf (eNot (eB (eFz (eCallU (r_same n) (aVal (eSub 0 (eVar 2)) (aVal (eSub 1 (eVar 2)) (aNil))))))) (sRet (eSh (eC (.bool false)))) (sNext)
theorem si_loop {n : Nat} {d : D} {items : List D} (hi : ∀ x ∈ items, ∃ y, idxD d x = some y ∧ r_same n [.sh y, .sh y] = .ok (.sh (.bool true)) [none, none]) : ∀ (u : Option O), ∃ u', loopS (tgN 2) (siB n) items [some (.sh d), some (.sh d), u] = .ok .nx [some (.sh d), some (.sh d), u'] := by
  induction items with
  | nil => exact fun u => ⟨u, rfl⟩
  | cons x xs ih =>
    intro u
    obtain ⟨y, ey, es⟩ := hi x List.mem_cons_self
    obtain ⟨u', e⟩ := ih (fun z hz => hi z (List.mem_cons_of_mem _ hz)) (some (.sh x))
    refine ⟨u', ?_⟩
    have e1 : siB n [some (.sh d), some (.sh d), some (.sh x)] = .ok .nx [some (.sh d), some (.sh d), some (.sh x)] := by
      unfold siB
      simp only [sSeq, sIf, eAnd, eOr, eNot, eB, bnd, eBin, eUn, eSub, eC, VH.ret, lift, eVar, eSh, eFz, sSet, sRet, sPut, sAsg, tgN, tgT, tgSeq, eAll, eCons, eNil, eAndV, eOrV, eNotV, eOfB, eIf, eIsN, eNotN, eNN, eNNo, eTru, sDo, sApp, sExt, sNext, oLst, oAdd, oIf, oList, eMov, eSl, ePart, eCallU, aNil, aVal, aBor, takeA, putA, List.getElem?_cons_zero, List.getElem?_cons_succ, List.set_cons_zero, List.set_cons_succ, Nat.reduceSub, Nat.reduceAdd, Nat.reduceLT, Nat.reduceLeDiff, Option.bind, Option.map, VH.keyOf, O.fzb, fz, blD, eM1, List.replicate, if_true, if_false, Bool.false_eq_true, decide_true, decide_false, beq_self_eq_true, Bool.not_true, Bool.not_false, and_self, and_true, true_and, Bool.or_true, Bool.true_or, Bool.or_false, Bool.false_or, Bool.and_true, Bool.and_false, ne_eq, not_false_eq_true, not_true_eq_false, reduceCtorEq, ey, es]
    exact (loop_cons (env1 := [some (.sh d), some (.sh d), some (.sh x)]) rfl e1).trans e
theorem e_rng_len1 {c d : D} {z : Int} {items : List D} (h2 : VH.lenD [d] = some (.int z)) (h3 : rng1D (.int z) = some items) (r : En) : eRng (eAll VH.lenD (eCons (eVar 1) (eNil))) (some (.sh c) :: some (.sh d) :: r) = .ok items (some (.sh c) :: some (.sh d) :: r) := by
  simp only [sSeq, sIf, eAnd, eOr, eNot, eB, bnd, eBin, eUn, eSub, eC, VH.ret, lift, eVar, eSh, eFz, sSet, sRet, sPut, sAsg, tgN, tgT, tgSeq, eAll, eCons, eNil, eAndV, eOrV, eNotV, eOfB, eIf, eIsN, eNotN, eNN, eNNo, eTru, sDo, sApp, sExt, sNext, oLst, oAdd, oIf, oList, eMov, eSl, ePart, eCallU, aNil, aVal, aBor, takeA, putA, List.getElem?_cons_zero, List.getElem?_cons_succ, List.set_cons_zero, List.set_cons_succ, Nat.reduceSub, Nat.reduceAdd, Nat.reduceLT, Nat.reduceLeDiff, Option.bind, Option.map, VH.keyOf, O.fzb, fz, blD, eM1, List.replicate, if_true, if_false, Bool.false_eq_true, decide_true, decide_false, beq_self_eq_true, Bool.not_true, Bool.not_false, and_self, and_true, true_and, Bool.or_true, Bool.true_or, Bool.or_false, Bool.false_or, Bool.and_true, Bool.and_false, ne_eq, not_false_eq_true, not_true_eq_false, reduceCtorEq, eRng, h2, h3]
theorem si_ok {n : Nat} {d : D} {xs : List D} (hd : ∀ i, idxD d (.int i) = atI xs i) (hl : VH.lenD [d] = some (.int xs.length)) (h6 : xs.length ≤ 1000) (hx : ∀ x ∈ xs, r_same n [.sh x, .sh x] = .ok (.sh (.bool true)) [none, none]) : r_si n [.sh d, .sh d] = .ok (.sh (.bool true)) [none, none] := by
  have t3 := tb_rng (k := xs.length) h6
  obtain ⟨u', e⟩ := si_loop (n := n) (d := d) (items := rngL 0 (xs.length : Int).toNat) (fun x hm => by
    unfold rngL at hm
    obtain ⟨i, hi, rfl⟩ := List.mem_map.mp hm
    have hi' : i < xs.length := by simpa using hi
    refine ⟨xs[i], ?_, hx _ (List.getElem_mem hi')⟩
    rw [hd, Int.zero_add, atI_in hi']) none
  generalize (xs.length : Int) = z at hl t3 e
  have e0 : sIf (eB (eBin neD (eAll VH.lenD (eCons (eVar 0) (eNil))) (eAll VH.lenD (eCons (eVar 1) (eNil))))) (sRet (eSh (eC (.bool false)))) (sNext) [some (.sh d), some (.sh d), none] = .ok .nx [some (.sh d), some (.sh d), none] := by
    have q : (z == z) = true := beq_self_eq_true z
    simp only [sSeq, sIf, eAnd, eOr, eNot, eB, bnd, eBin, eUn, eSub, eC, VH.ret, lift, eVar, eSh, eFz, sSet, sRet, sPut, sAsg, tgN, tgT, tgSeq, eAll, eCons, eNil, eAndV, eOrV, eNotV, eOfB, eIf, eIsN, eNotN, eNN, eNNo, eTru, sDo, sApp, sExt, sNext, oLst, oAdd, oIf, oList, eMov, eSl, ePart, eCallU, aNil, aVal, aBor, takeA, putA, List.getElem?_cons_zero, List.getElem?_cons_succ, List.set_cons_zero, List.set_cons_succ, Nat.reduceSub, Nat.reduceAdd, Nat.reduceLT, Nat.reduceLeDiff, Option.bind, Option.map, VH.keyOf, O.fzb, fz, blD, eM1, List.replicate, if_true, if_false, Bool.false_eq_true, decide_true, decide_false, beq_self_eq_true, Bool.not_true, Bool.not_false, and_self, and_true, true_and, Bool.or_true, Bool.true_or, Bool.or_false, Bool.false_or, Bool.and_true, Bool.and_false, ne_eq, not_false_eq_true, not_true_eq_false, reduceCtorEq, hl, ne_ii, q]
  have eR : sRet (eSh (eC (.bool true))) [some (.sh d), some (.sh d), u'] = .ok (.ret (.sh (.bool true))) [some (.sh d), some (.sh d), u'] := by simp only [sSeq, sIf, eAnd, eOr, eNot, eB, bnd, eBin, eUn, eSub, eC, VH.ret, lift, eVar, eSh, eFz, sSet, sRet, sPut, sAsg, tgN, tgT, tgSeq, eAll, eCons, eNil, eAndV, eOrV, eNotV, eOfB, eIf, eIsN, eNotN, eNN, eNNo, eTru, sDo, sApp, sExt, sNext, oLst, oAdd, oIf, oList, eMov, eSl, ePart, eCallU, aNil, aVal, aBor, takeA, putA, List.getElem?_cons_zero, List.getElem?_cons_succ, List.set_cons_zero, List.set_cons_succ, Nat.reduceSub, Nat.reduceAdd, Nat.reduceLT, Nat.reduceLeDiff, Option.bind, Option.map, VH.keyOf, O.fzb, fz, blD, eM1, List.replicate, if_true, if_false, Bool.false_eq_true, decide_true, decide_false, beq_self_eq_true, Bool.not_true, Bool.not_false, and_self, and_true, true_and, Bool.or_true, Bool.true_or, Bool.or_false, Bool.false_or, Bool.and_true, Bool.and_false, ne_eq, not_false_eq_true, not_true_eq_false, reduceCtorEq]
  exact (run_ok (os := [.sh d, .sh d]) (tot := 3) (bs := bs__law_same_items) ((seq_ok e0).trans ((seq_ok (for_ok (e_rng_len1 hl t3 _) e)).trans eR))).trans (by rw [mask2])
theorem same_ok : ∀ (n : Nat) (d : D), Gd n d → r_same n [.sh d, .sh d] = .ok (.sh (.bool true)) [none, none]
  | 0, _, h => h.elim
  | n + 1, .dict _, h => h.elim
  | n + 1, .none, h => by
    refine run_ok (os := [.sh .none, .sh .none]) (tot := 3) (bs := bs__law_same) (env := [some (.sh .none), some (.sh .none), none]) ?_
    unfold b__law_same
    simp only [sSeq, sIf, eAnd, eOr, eNot, eB, bnd, eBin, eUn, eSub, eC, VH.ret, lift, eVar, eSh, eFz, sSet, sRet, sPut, sAsg, tgN, tgT, tgSeq, eAll, eCons, eNil, eAndV, eOrV, eNotV, eOfB, eIf, eIsN, eNotN, eNN, eNNo, eTru, sDo, sApp, sExt, sNext, oLst, oAdd, oIf, oList, eMov, eSl, ePart, eCallU, aNil, aVal, aBor, takeA, putA, List.getElem?_cons_zero, List.getElem?_cons_succ, List.set_cons_zero, List.set_cons_succ, Nat.reduceSub, Nat.reduceAdd, Nat.reduceLT, Nat.reduceLeDiff, Option.bind, Option.map, VH.keyOf, O.fzb, fz, blD, eM1, List.replicate, if_true, if_false, Bool.false_eq_true, decide_true, decide_false, beq_self_eq_true, Bool.not_true, Bool.not_false, and_self, and_true, true_and, Bool.or_true, Bool.true_or, Bool.or_false, Bool.false_or, Bool.and_true, Bool.and_false, ne_eq, not_false_eq_true, not_true_eq_false, reduceCtorEq, isN, List.map_cons, List.map_nil, List.length_cons, List.length_nil, List.cons_append, List.nil_append]
  | n + 1, .bool b, h => by
    refine run_ok (os := [.sh (.bool b), .sh (.bool b)]) (tot := 3) (bs := bs__law_same) (env := [some (.sh (.bool b)), some (.sh (.bool b)), none]) ?_
    unfold b__law_same
    have q : eqD (.bool b) (.bool b) = some (.bool true) := by cases b <;> rfl
    simp only [sSeq, sIf, eAnd, eOr, eNot, eB, bnd, eBin, eUn, eSub, eC, VH.ret, lift, eVar, eSh, eFz, sSet, sRet, sPut, sAsg, tgN, tgT, tgSeq, eAll, eCons, eNil, eAndV, eOrV, eNotV, eOfB, eIf, eIsN, eNotN, eNN, eNNo, eTru, sDo, sApp, sExt, sNext, oLst, oAdd, oIf, oList, eMov, eSl, ePart, eCallU, aNil, aVal, aBor, takeA, putA, List.getElem?_cons_zero, List.getElem?_cons_succ, List.set_cons_zero, List.set_cons_succ, Nat.reduceSub, Nat.reduceAdd, Nat.reduceLT, Nat.reduceLeDiff, Option.bind, Option.map, VH.keyOf, O.fzb, fz, blD, eM1, List.replicate, if_true, if_false, Bool.false_eq_true, decide_true, decide_false, beq_self_eq_true, Bool.not_true, Bool.not_false, and_self, and_true, true_and, Bool.or_true, Bool.true_or, Bool.or_false, Bool.false_or, Bool.and_true, Bool.and_false, ne_eq, not_false_eq_true, not_true_eq_false, reduceCtorEq, isN, vi_bool, truD, q, List.map_cons, List.map_nil, List.length_cons, List.length_nil, List.cons_append, List.nil_append]
  | n + 1, .int i, h => by
    refine run_ok (os := [.sh (.int i), .sh (.int i)]) (tot := 3) (bs := bs__law_same) (env := [some (.sh (.int i)), some (.sh (.int i)), none]) ?_
    unfold b__law_same
    have q : eqD (.int i) (.int i) = some (.bool true) := by
      show some (PyData.bool (i == i)) = _
      rw [beq_self_eq_true]
    simp only [sSeq, sIf, eAnd, eOr, eNot, eB, bnd, eBin, eUn, eSub, eC, VH.ret, lift, eVar, eSh, eFz, sSet, sRet, sPut, sAsg, tgN, tgT, tgSeq, eAll, eCons, eNil, eAndV, eOrV, eNotV, eOfB, eIf, eIsN, eNotN, eNN, eNNo, eTru, sDo, sApp, sExt, sNext, oLst, oAdd, oIf, oList, eMov, eSl, ePart, eCallU, aNil, aVal, aBor, takeA, putA, List.getElem?_cons_zero, List.getElem?_cons_succ, List.set_cons_zero, List.set_cons_succ, Nat.reduceSub, Nat.reduceAdd, Nat.reduceLT, Nat.reduceLeDiff, Option.bind, Option.map, VH.keyOf, O.fzb, fz, blD, eM1, List.replicate, if_true, if_false, Bool.false_eq_true, decide_true, decide_false, beq_self_eq_true, Bool.not_true, Bool.not_false, and_self, and_true, true_and, Bool.or_true, Bool.true_or, Bool.or_false, Bool.false_or, Bool.and_true, Bool.and_false, ne_eq, not_false_eq_true, not_true_eq_false, reduceCtorEq, isN, vi_bool, vi_int, truD, q, li_ok, List.map_cons, List.map_nil, List.length_cons, List.length_nil, List.cons_append, List.nil_append]
  | n + 1, .str x, h => by
    refine run_ok (os := [.sh (.str x), .sh (.str x)]) (tot := 3) (bs := bs__law_same) (env := [some (.sh (.str x)), some (.sh (.str x)), none]) ?_
    unfold b__law_same
    have q : eqD (.str x) (.str x) = some (.bool true) := by
      show some (PyData.bool (x == x)) = _
      rw [beq_self_eq_true]
    simp only [sSeq, sIf, eAnd, eOr, eNot, eB, bnd, eBin, eUn, eSub, eC, VH.ret, lift, eVar, eSh, eFz, sSet, sRet, sPut, sAsg, tgN, tgT, tgSeq, eAll, eCons, eNil, eAndV, eOrV, eNotV, eOfB, eIf, eIsN, eNotN, eNN, eNNo, eTru, sDo, sApp, sExt, sNext, oLst, oAdd, oIf, oList, eMov, eSl, ePart, eCallU, aNil, aVal, aBor, takeA, putA, List.getElem?_cons_zero, List.getElem?_cons_succ, List.set_cons_zero, List.set_cons_succ, Nat.reduceSub, Nat.reduceAdd, Nat.reduceLT, Nat.reduceLeDiff, Option.bind, Option.map, VH.keyOf, O.fzb, fz, blD, eM1, List.replicate, if_true, if_false, Bool.false_eq_true, decide_true, decide_false, beq_self_eq_true, Bool.not_true, Bool.not_false, and_self, and_true, true_and, Bool.or_true, Bool.true_or, Bool.or_false, Bool.false_or, Bool.and_true, Bool.and_false, ne_eq, not_false_eq_true, not_true_eq_false, reduceCtorEq, isN, vi_bool, vi_int, vi_str, truD, q, List.map_cons, List.map_nil, List.length_cons, List.length_nil, List.cons_append, List.nil_append]
  | n + 1, .tuple xs, h => by
    have q : r_si n [.sh (.tuple xs), .sh (.tuple xs)] = _ := si_ok (d := .tuple xs) (xs := xs) (fun _ => rfl) rfl (by have := h.1; omega) fun x hx => same_ok n x (h.2 x hx)
    unfold r_si at q
    refine run_ok (os := [.sh (.tuple xs), .sh (.tuple xs)]) (tot := 3) (bs := bs__law_same) (env := [some (.sh (.tuple xs)), some (.sh (.tuple xs)), none]) ?_
    unfold b__law_same
    simp only [sSeq, sIf, eAnd, eOr, eNot, eB, bnd, eBin, eUn, eSub, eC, VH.ret, lift, eVar, eSh, eFz, sSet, sRet, sPut, sAsg, tgN, tgT, tgSeq, eAll, eCons, eNil, eAndV, eOrV, eNotV, eOfB, eIf, eIsN, eNotN, eNN, eNNo, eTru, sDo, sApp, sExt, sNext, oLst, oAdd, oIf, oList, eMov, eSl, ePart, eCallU, aNil, aVal, aBor, takeA, putA, List.getElem?_cons_zero, List.getElem?_cons_succ, List.set_cons_zero, List.set_cons_succ, Nat.reduceSub, Nat.reduceAdd, Nat.reduceLT, Nat.reduceLeDiff, Option.bind, Option.map, VH.keyOf, O.fzb, fz, blD, eM1, List.replicate, if_true, if_false, Bool.false_eq_true, decide_true, decide_false, beq_self_eq_true, Bool.not_true, Bool.not_false, and_self, and_true, true_and, Bool.or_true, Bool.true_or, Bool.or_false, Bool.false_or, Bool.and_true, Bool.and_false, ne_eq, not_false_eq_true, not_true_eq_false, reduceCtorEq, isN, vi_bool, vi_int, vi_str, vi_tuple, truD, q, List.map_cons, List.map_nil, List.length_cons, List.length_nil, List.cons_append, List.nil_append]
  | n + 1, .list xs, h => by
    have q : r_si n [.sh (.list xs), .sh (.list xs)] = _ := si_ok (d := .list xs) (xs := xs) (fun _ => rfl) rfl (by have := h.1; omega) fun x hx => same_ok n x (h.2 x hx)
    unfold r_si at q
    refine run_ok (os := [.sh (.list xs), .sh (.list xs)]) (tot := 3) (bs := bs__law_same) (env := [some (.sh (.list xs)), some (.sh (.list xs)), none]) ?_
    unfold b__law_same
    simp only [sSeq, sIf, eAnd, eOr, eNot, eB, bnd, eBin, eUn, eSub, eC, VH.ret, lift, eVar, eSh, eFz, sSet, sRet, sPut, sAsg, tgN, tgT, tgSeq, eAll, eCons, eNil, eAndV, eOrV, eNotV, eOfB, eIf, eIsN, eNotN, eNN, eNNo, eTru, sDo, sApp, sExt, sNext, oLst, oAdd, oIf, oList, eMov, eSl, ePart, eCallU, aNil, aVal, aBor, takeA, putA, List.getElem?_cons_zero, List.getElem?_cons_succ, List.set_cons_zero, List.set_cons_succ, Nat.reduceSub, Nat.reduceAdd, Nat.reduceLT, Nat.reduceLeDiff, Option.bind, Option.map, VH.keyOf, O.fzb, fz, blD, eM1, List.replicate, if_true, if_false, Bool.false_eq_true, decide_true, decide_false, beq_self_eq_true, Bool.not_true, Bool.not_false, and_self, and_true, true_and, Bool.or_true, Bool.true_or, Bool.or_false, Bool.false_or, Bool.and_true, Bool.and_false, ne_eq, not_false_eq_true, not_true_eq_false, reduceCtorEq, isN, vi_bool, vi_int, vi_str, vi_tuple, vi_list, truD, q, List.map_cons, List.map_nil, List.length_cons, List.length_nil, List.cons_append, List.nil_append]
end K86
set_option Elab.async false
set_option linter.all false
set_option maxRecDepth 100000
set_option maxHeartbeats 4000000
namespace K86
open PySem PySem.Spec PyProof.Rows L2 VH
theorem cutA_map {α β : Type} (f : α → β) (xs : List α) (lo hi : Option Int) : cutA (xs.map f) lo hi = (cutA xs lo hi).map f := by
  unfold cutA
  rw [List.length_map, ← List.map_drop, ← List.map_take]
theorem cutA_mem {α : Type} {xs : List α} {lo hi : Option Int} {x : α} (h : x ∈ cutA xs lo hi) : x ∈ xs := List.mem_of_mem_drop (List.mem_of_mem_take h)
theorem cutA_len {α : Type} (xs : List α) (lo hi : Option Int) : (cutA xs lo hi).length ≤ xs.length := by
  unfold cutA
  rw [List.length_take, List.length_drop]
  omega
theorem sl_e (l : List Ent) (lo hi : Option Int) : slD lo hi (.tuple (l.map eD)) = some (.tuple ((cutA l lo hi).map eD)) := by
  show some (PyData.tuple (cutA (l.map eD) lo hi)) = _
  rw [cutA_map]
theorem add_t (a b : List Ent) (h : a.length + b.length ≤ 16000000) : addD (.tuple (a.map eD)) (.tuple (b.map eD)) = some (.tuple ((a ++ b).map eD)) := by
  have hL := line_big
  have e : addT (.tuple (a.map eD)) (.tuple (b.map eD)) = some (.tuple ((a ++ b).map eD)) := by
    have h2 : a.length + b.length ≤ sizeLine := by omega
    simp only [addT, List.length_map, if_pos h2, List.map_append]
  exact e
theorem ix_i (z : Int) : ixI (.int z) = some (some z) := rfl
theorem sub_ii (a b : Int) : subD (.int a) (.int b) = some (.int (a - b)) := rfl
theorem neg_i (a : Int) : negD (.int a) = some (.int (-a)) := rfl
theorem t1 (a : D) : tupD [a] = some (.tuple [a]) := rfl
theorem l5 (a b c d e : D) : lstD [a, b, c, d, e] = some (.list [a, b, c, d, e]) := rfl
theorem eq_ii (a b : Int) : eqD (.int a) (.int b) = some (.bool (a == b)) := rfl
theorem lt_ii (a b : Int) : ltD (.int a) (.int b) = some (.bool (decide (a < b))) := rfl
theorem asg_ok {f : En → Rs D} {tg : Tg} {env env1 env2 : En} {d : D} (h1 : f env = .ok d env1) (h2 : tg d env1 = some env2) : sAsg f tg env = .ok .nx env2 := by
  unfold sAsg bnd
  simp only [h1, h2]
theorem run2 {b : En → Rs Fl} {tot : Nat} {o d1 d2 : O} {t : Option O} (h : ∃ rest, b ([d1, d2].map some ++ List.replicate (tot - 2) none) = .ok (.ret o) (t :: rest)) : fnRun [true, false] tot b [d1, d2] = .ok o [t, none] := by
  obtain ⟨rest, h⟩ := h
  refine (run_ok (os := [d1, d2]) (bs := [true, false]) h).trans ?_
  show Rs.ok o (t :: mask [false] rest) = _
  rw [mask1]
def del : D := .tuple [.str (Str.ofString "delete"), .str (Str.ofString "t"), .int 1]
theorem del_ed : Ed del := ⟨by simp, all3 (str_gd _ (by decide +kernel)) (str_gd _ (by decide +kernel)) trivial⟩
def Gs (e : Ent) : Prop := e.es.length ≤ 3 ∧ ∀ x ∈ e.es, Ed x
theorem gs_gt {e : Ent} (h : Gs e) : Gt e.es := ⟨by have := h.1; omega, h.2⟩
def ones (e : Ent) : List Ent := [⟨e.n + 1, e.v, e.es, e.s⟩, ⟨e.n, e.v + 1, e.es, e.s⟩, ⟨e.n, e.v, e.es ++ [del], e.s⟩, ⟨e.n, e.v, e.es, (e.s + 1) % 999983⟩, ⟨e.n, e.v, e.es, -e.s⟩]
theorem ones_gt {e : Ent} (h : Gs e) : ∀ x ∈ ones e, Gt x.es := fun x hx => by
  unfold ones at hx
  simp only [List.mem_cons, List.not_mem_nil, or_false] at hx
  rcases hx with rfl | rfl | rfl | rfl | rfl
  · exact gs_gt h
  · exact gs_gt h
  · refine ⟨by have := h.1; simp; omega, fun x hx => ?_⟩
    rcases List.mem_append.mp hx with q | q
    · exact h.2 x q
    · rw [List.mem_singleton.mp q]; exact del_ed
  · exact gs_gt h
  · exact gs_gt h
def r_sp : List O → Rs O := fnRun bs__law_spoilt 10 (b__law_spoilt r_take r_ls)
theorem sp_one (t L k a : O) (e : Ent) (h : Gs e) : sSet 8 (eSh (eAll lstD (eCons (eAll tupD (eCons (eBin addD (eVar 4) (eC (.int 1))) (eCons (eVar 5) (eCons (eVar 6) (eCons (eVar 7) (eNil)))))) (eCons (eAll tupD (eCons (eVar 4) (eCons (eBin addD (eVar 5) (eC (.int 1))) (eCons (eVar 6) (eCons (eVar 7) (eNil)))))) (eCons (eAll tupD (eCons (eVar 4) (eCons (eVar 5) (eCons (eBin addD (eVar 6) (eAll tupD (eCons (eAll tupD (eCons (eC (.str (Str.ofString "delete"))) (eCons (eC (.str (Str.ofString "t"))) (eCons (eC (.int 1)) (eNil))))) (eNil)))) (eCons (eVar 7) (eNil)))))) (eCons (eAll tupD (eCons (eVar 4) (eCons (eVar 5) (eCons (eVar 6) (eCons (eBin modD (eAll VH.intD (eCons (eBin addD (eVar 7) (eC (.int 1))) (eNil))) (eC (.int 999983))) (eNil)))))) (eCons (eAll tupD (eCons (eVar 4) (eCons (eVar 5) (eCons (eVar 6) (eCons (eUn negD (eVar 7)) (eNil)))))) (eNil)))))))) [some t, some L, some k, some a, some (.sh (.int e.n)), some (.sh (.int e.v)), some (.sh (.tuple e.es)), some (.sh (.int e.s)), none, none] =
    .ok .nx [some t, some L, some k, some a, some (.sh (.int e.n)), some (.sh (.int e.v)), some (.sh (.tuple e.es)), some (.sh (.int e.s)), some (.sh (.list ((ones e).map eD))), none] := by
  have ad : addD (.tuple e.es) (.tuple [.tuple [.str (Str.ofString "delete"), .str (Str.ofString "t"), .int 1]]) = some (.tuple (e.es ++ [.tuple [.str (Str.ofString "delete"), .str (Str.ofString "t"), .int 1]])) := by
    have hL := line_big
    have h2 : e.es.length + 1 ≤ sizeLine := by have := h.1; omega
    have e : addT (.tuple e.es) (.tuple [.tuple [.str (Str.ofString "delete"), .str (Str.ofString "t"), .int 1]]) = some (.tuple (e.es ++ [.tuple [.str (Str.ofString "delete"), .str (Str.ofString "t"), .int 1]])) := by
      simp only [addT, List.length_cons, List.length_nil, Nat.zero_add, if_pos h2]
    exact e
  simp only [sSeq, sIf, eAnd, eOr, eNot, eB, bnd, eBin, eUn, eSub, eC, VH.ret, lift, eVar, eSh, eFz, sSet, sRet, sPut, sAsg, tgN, tgT, tgSeq, eAll, eCons, eNil, eAndV, eOrV, eNotV, eOfB, eIf, eIsN, eNotN, eNN, eNNo, eTru, sDo, sApp, sExt, sNext, oLst, oAdd, oIf, oList, eMov, eSl, ePart, eCallU, aNil, aVal, aBor, takeA, putA, List.getElem?_cons_zero, List.getElem?_cons_succ, List.set_cons_zero, List.set_cons_succ, Nat.reduceSub, Nat.reduceAdd, Nat.reduceLT, Nat.reduceLeDiff, Option.bind, Option.map, VH.keyOf, O.fzb, fz, blD, eM1, List.replicate, if_true, if_false, Bool.false_eq_true, decide_true, decide_false, beq_self_eq_true, Bool.not_true, Bool.not_false, and_self, and_true, true_and, Bool.or_true, Bool.true_or, Bool.or_false, Bool.false_or, Bool.and_true, Bool.and_false, ne_eq, not_false_eq_true, not_true_eq_false, reduceCtorEq, t3, t1, t4, l5, a_ii, i_i, m999, neg_i, ad, List.length_cons, List.length_nil]
  rfl
theorem sp_core (T T1 T2 : Tape) (l : List Ent) (h6 : l.length ≤ 6) (hg : ∀ e ∈ l, Gs e) (k z ll : Int) (e : Ent) (k0 : 0 ≤ k) (ek : r_take [tapeO T, .sh (.int 7)] = .ok (.sh (.int k)) [some (tapeO T1), none]) (tl' : VH.lenD [.tuple (l.map eD)] = some (.int ll))
    (ea : r_take [tapeO T1, .sh (.int ll)] = .ok (.sh (.int z)) [some (tapeO T2), none]) (ha : idxD (.tuple (l.map eD)) (.int z) = some (eD e)) (hge : Gs e) (hpre : z ≠ 0 → ∃ e', idxD (.tuple (l.map eD)) (.int (z - 1)) = some (eD e')) :
    ∃ (l' : List Ent) (T' : Tape), r_sp [tapeO T, .sh (.tuple (l.map eD))] = .ok (.sh (.tuple (l'.map eD))) [some (tapeO T'), none] ∧ l'.length ≤ 20 ∧ ∀ e ∈ l', Gt e.es := by
  have e1 : sSet 2 (eSh (eFz (eCallU r_take (aBor 0 (aVal (eC (.int 7)) (aNil)))))) [some (tapeO T), some (.sh (.tuple (l.map eD))), none, none, none, none, none, none, none, none] = .ok .nx [some (tapeO T1), some (.sh (.tuple (l.map eD))), some (.sh (.int k)), none, none, none, none, none, none, none] := by simp only [sSeq, sIf, eAnd, eOr, eNot, eB, bnd, eBin, eUn, eSub, eC, VH.ret, lift, eVar, eSh, eFz, sSet, sRet, sPut, sAsg, tgN, tgT, tgSeq, eAll, eCons, eNil, eAndV, eOrV, eNotV, eOfB, eIf, eIsN, eNotN, eNN, eNNo, eTru, sDo, sApp, sExt, sNext, oLst, oAdd, oIf, oList, eMov, eSl, ePart, eCallU, aNil, aVal, aBor, takeA, putA, List.getElem?_cons_zero, List.getElem?_cons_succ, List.set_cons_zero, List.set_cons_succ, Nat.reduceSub, Nat.reduceAdd, Nat.reduceLT, Nat.reduceLeDiff, Option.bind, Option.map, VH.keyOf, O.fzb, fz, blD, eM1, List.replicate, if_true, if_false, Bool.false_eq_true, decide_true, decide_false, beq_self_eq_true, Bool.not_true, Bool.not_false, and_self, and_true, true_and, Bool.or_true, Bool.true_or, Bool.or_false, Bool.false_or, Bool.and_true, Bool.and_false, ne_eq, not_false_eq_true, not_true_eq_false, reduceCtorEq, ek, List.length_cons, List.length_nil]
  have e2 : sSet 3 (eSh (eFz (eCallU r_take (aBor 0 (aVal (eAll VH.lenD (eCons (eVar 1) (eNil))) (aNil)))))) [some (tapeO T1), some (.sh (.tuple (l.map eD))), some (.sh (.int k)), none, none, none, none, none, none, none] = .ok .nx [some (tapeO T2), some (.sh (.tuple (l.map eD))), some (.sh (.int k)), some (.sh (.int z)), none, none, none, none, none, none] := by simp only [sSeq, sIf, eAnd, eOr, eNot, eB, bnd, eBin, eUn, eSub, eC, VH.ret, lift, eVar, eSh, eFz, sSet, sRet, sPut, sAsg, tgN, tgT, tgSeq, eAll, eCons, eNil, eAndV, eOrV, eNotV, eOfB, eIf, eIsN, eNotN, eNN, eNNo, eTru, sDo, sApp, sExt, sNext, oLst, oAdd, oIf, oList, eMov, eSl, ePart, eCallU, aNil, aVal, aBor, takeA, putA, List.getElem?_cons_zero, List.getElem?_cons_succ, List.set_cons_zero, List.set_cons_succ, Nat.reduceSub, Nat.reduceAdd, Nat.reduceLT, Nat.reduceLeDiff, Option.bind, Option.map, VH.keyOf, O.fzb, fz, blD, eM1, List.replicate, if_true, if_false, Bool.false_eq_true, decide_true, decide_false, beq_self_eq_true, Bool.not_true, Bool.not_false, and_self, and_true, true_and, Bool.or_true, Bool.true_or, Bool.or_false, Bool.false_or, Bool.and_true, Bool.and_false, ne_eq, not_false_eq_true, not_true_eq_false, reduceCtorEq, tl', ea, List.length_cons, List.length_nil]
  have e3 : sAsg (eSub 1 (eVar 3)) (tgT 4 [tgN 4, tgN 5, tgN 6, tgN 7]) [some (tapeO T2), some (.sh (.tuple (l.map eD))), some (.sh (.int k)), some (.sh (.int z)), none, none, none, none, none, none] = .ok .nx [some (tapeO T2), some (.sh (.tuple (l.map eD))), some (.sh (.int k)), some (.sh (.int z)), some (.sh (.int e.n)), some (.sh (.int e.v)), some (.sh (.tuple e.es)), some (.sh (.int e.s)), none, none] :=
    asg_ok (d := eD e) (env1 := [some (tapeO T2), some (.sh (.tuple (l.map eD))), some (.sh (.int k)), some (.sh (.int z)), none, none, none, none, none, none]) (by simp only [sSeq, sIf, eAnd, eOr, eNot, eB, bnd, eBin, eUn, eSub, eC, VH.ret, lift, eVar, eSh, eFz, sSet, sRet, sPut, sAsg, tgN, tgT, tgSeq, eAll, eCons, eNil, eAndV, eOrV, eNotV, eOfB, eIf, eIsN, eNotN, eNN, eNNo, eTru, sDo, sApp, sExt, sNext, oLst, oAdd, oIf, oList, eMov, eSl, ePart, eCallU, aNil, aVal, aBor, takeA, putA, List.getElem?_cons_zero, List.getElem?_cons_succ, List.set_cons_zero, List.set_cons_succ, Nat.reduceSub, Nat.reduceAdd, Nat.reduceLT, Nat.reduceLeDiff, Option.bind, Option.map, VH.keyOf, O.fzb, fz, blD, eM1, List.replicate, if_true, if_false, Bool.false_eq_true, decide_true, decide_false, beq_self_eq_true, Bool.not_true, Bool.not_false, and_self, and_true, true_and, Bool.or_true, Bool.true_or, Bool.or_false, Bool.false_or, Bool.and_true, Bool.and_false, ne_eq, not_false_eq_true, not_true_eq_false, reduceCtorEq, ha]) rfl
  have e4 := sp_one (tapeO T2) (.sh (.tuple (l.map eD))) (.sh (.int k)) (.sh (.int z)) e hge
  have cl := fun lo hi => cutA_len l lo hi
  have cg : ∀ {lo hi}, ∀ x ∈ cutA l lo hi, Gt x.es := fun x hx => gs_gt (hg x (cutA_mem hx))
  have app : ∀ {a b : List Ent}, (∀ x ∈ a, Gt x.es) → (∀ x ∈ b, Gt x.es) → ∀ x ∈ a ++ b, Gt x.es := fun ha hb x hx => (List.mem_append.mp hx).elim (ha x) (hb x)
  suffices hs : ∃ (l' : List Ent) (T' : Tape) (rest : En), (sSeq (sIf (eB (eBin ltD (eVar 2) (eC (.int 5)))) (sRet (eSh (eBin addD (eBin addD (eSl (eVar 1) (VH.ret none) (ePart (eVar 3))) (eAll tupD (eCons (eSub 8 (eVar 2)) (eNil)))) (eSl (eVar 1) (ePart (eBin addD (eVar 3) (eC (.int 1)))) (VH.ret none))))) (sNext)) (sSeq (sIf (eAnd (eB (eBin eqD (eVar 2) (eC (.int 5)))) (eB (eBin eqD (eFz (eCallU r_take (aBor 0 (aVal (eC (.int 2)) (aNil))))) (eC (.int 0))))) (sSeq (sSet 9 (eSh (eFz (eCallU r_ls (aVal (eIf (eB (eBin eqD (eVar 3) (eC (.int 0)))) (eC (.int 17)) (eBin idxD (eSub 1 (eBin subD (eVar 3) (eC (.int 1)))) (eC (.int 3)))) (aVal (eAll tupD (eCons (eBin addD (eVar 4) (eC (.int 1))) (eCons (eVar 5) (eCons (eVar 6) (eNil))))) (aNil))))))) (sRet (eSh (eBin addD (eSl (eVar 1) (VH.ret none) (ePart (eVar 3))) (eAll tupD (eCons (eAll tupD (eCons (eBin addD (eVar 4) (eC (.int 1))) (eCons (eVar 5) (eCons (eVar 6) (eCons (eVar 9) (eNil)))))) (eNil))))))) (sNext)) (sSeq (sIf (eB (eBin eqD (eVar 2) (eC (.int 5)))) (sRet (eSh (eBin addD (eSl (eVar 1) (VH.ret none) (ePart (eVar 3))) (eSl (eVar 1) (ePart (eBin addD (eVar 3) (eC (.int 1)))) (VH.ret none))))) (sNext)) (sRet (eSh (eBin addD (eBin addD (eSl (eVar 1) (VH.ret none) (ePart (eVar 3))) (eSl (eVar 1) (ePart (eVar 3)) (ePart (eBin addD (eVar 3) (eC (.int 1)))))) (eSl (eVar 1) (ePart (eVar 3)) (VH.ret none))))))))
      [some (tapeO T2), some (.sh (.tuple (l.map eD))), some (.sh (.int k)), some (.sh (.int z)), some (.sh (.int e.n)), some (.sh (.int e.v)), some (.sh (.tuple e.es)), some (.sh (.int e.s)), some (.sh (.list ((ones e).map eD))), none] = .ok (.ret (.sh (.tuple (l'.map eD)))) (some (tapeO T') :: rest) ∧ l'.length ≤ 20 ∧ ∀ x ∈ l', Gt x.es by
    obtain ⟨l', T', rest, hs, h20, hgt⟩ := hs
    exact ⟨l', T', run2 ⟨rest, (seq_ok e1).trans ((seq_ok e2).trans ((seq_ok e3).trans ((seq_ok e4).trans hs)))⟩, h20, hgt⟩
  by_cases c1 : k < 5
  · obtain ⟨y, hy, ey⟩ := atI_mem (xs := (ones e).map eD) (r := k) k0 (by rw [List.length_map]; exact c1)
    obtain ⟨x, hx, rfl⟩ := List.mem_map.mp hy
    have q1 : decide (k < 5) = true := decide_eq_true c1
    have ey' : idxD (.list ((ones e).map eD)) (.int k) = some (eD x) := ey
    have p1 := add_t (cutA l none (some z)) [x] (by have := cl none (some z); simp; omega)
    have p2 := add_t (cutA l none (some z) ++ [x]) (cutA l (some (z + 1)) none) (by have := cl none (some z); have := cl (some (z + 1)) none; simp; omega)
    refine ⟨(cutA l none (some z) ++ [x]) ++ cutA l (some (z + 1)) none, T2, [some (.sh (.tuple (l.map eD))), some (.sh (.int k)), some (.sh (.int z)), some (.sh (.int e.n)), some (.sh (.int e.v)), some (.sh (.tuple e.es)), some (.sh (.int e.s)), some (.sh (.list ((ones e).map eD))), none], ?_, by have := cl none (some z); have := cl (some (z + 1)) none; simp; omega, app (app cg fun w hw => by rw [List.mem_singleton.mp hw]; exact ones_gt hge x hx) cg⟩
    have p1' : addD (.tuple ((cutA l none (some z)).map eD)) (.tuple [eD x]) = _ := p1
    simp only [sSeq, sIf, eAnd, eOr, eNot, eB, bnd, eBin, eUn, eSub, eC, VH.ret, lift, eVar, eSh, eFz, sSet, sRet, sPut, sAsg, tgN, tgT, tgSeq, eAll, eCons, eNil, eAndV, eOrV, eNotV, eOfB, eIf, eIsN, eNotN, eNN, eNNo, eTru, sDo, sApp, sExt, sNext, oLst, oAdd, oIf, oList, eMov, eSl, ePart, eCallU, aNil, aVal, aBor, takeA, putA, List.getElem?_cons_zero, List.getElem?_cons_succ, List.set_cons_zero, List.set_cons_succ, Nat.reduceSub, Nat.reduceAdd, Nat.reduceLT, Nat.reduceLeDiff, Option.bind, Option.map, VH.keyOf, O.fzb, fz, blD, eM1, List.replicate, if_true, if_false, Bool.false_eq_true, decide_true, decide_false, beq_self_eq_true, Bool.not_true, Bool.not_false, and_self, and_true, true_and, Bool.or_true, Bool.true_or, Bool.or_false, Bool.false_or, Bool.and_true, Bool.and_false, ne_eq, not_false_eq_true, not_true_eq_false, reduceCtorEq, lt_ii, q1, ix_i, sl_e, ey', t1, a_ii, p1', p2]
  · have q1 : decide (k < 5) = false := decide_eq_false c1
    by_cases c2 : k = 5
    · have q2 : (k == 5) = true := by simp [c2]
      obtain ⟨u, T3, eu, u0, u1⟩ := take_ex T2 (m := 2) (by decide) (by decide)
      by_cases c3 : u = 0
      · have q3 : (u == 0) = true := by simp [c3]
        obtain ⟨b, eb⟩ : ∃ b : Int, eIf (eB (eBin eqD (eVar 3) (eC (.int 0)))) (eC (.int 17)) (eBin idxD (eSub 1 (eBin subD (eVar 3) (eC (.int 1)))) (eC (.int 3))) [some (tapeO T3), some (.sh (.tuple (l.map eD))), some (.sh (.int k)), some (.sh (.int z)), some (.sh (.int e.n)), some (.sh (.int e.v)), some (.sh (.tuple e.es)), some (.sh (.int e.s)), some (.sh (.list ((ones e).map eD))), none] = .ok (.int b) [some (tapeO T3), some (.sh (.tuple (l.map eD))), some (.sh (.int k)), some (.sh (.int z)), some (.sh (.int e.n)), some (.sh (.int e.v)), some (.sh (.tuple e.es)), some (.sh (.int e.s)), some (.sh (.list ((ones e).map eD))), none] := by
          by_cases c4 : z = 0
          · have q4 : (z == 0) = true := by simp [c4]
            refine ⟨17, ?_⟩
            simp only [sSeq, sIf, eAnd, eOr, eNot, eB, bnd, eBin, eUn, eSub, eC, VH.ret, lift, eVar, eSh, eFz, sSet, sRet, sPut, sAsg, tgN, tgT, tgSeq, eAll, eCons, eNil, eAndV, eOrV, eNotV, eOfB, eIf, eIsN, eNotN, eNN, eNNo, eTru, sDo, sApp, sExt, sNext, oLst, oAdd, oIf, oList, eMov, eSl, ePart, eCallU, aNil, aVal, aBor, takeA, putA, List.getElem?_cons_zero, List.getElem?_cons_succ, List.set_cons_zero, List.set_cons_succ, Nat.reduceSub, Nat.reduceAdd, Nat.reduceLT, Nat.reduceLeDiff, Option.bind, Option.map, VH.keyOf, O.fzb, fz, blD, eM1, List.replicate, if_true, if_false, Bool.false_eq_true, decide_true, decide_false, beq_self_eq_true, Bool.not_true, Bool.not_false, and_self, and_true, true_and, Bool.or_true, Bool.true_or, Bool.or_false, Bool.false_or, Bool.and_true, Bool.and_false, ne_eq, not_false_eq_true, not_true_eq_false, reduceCtorEq, eq_ii, q4]
          · have q4 : (z == 0) = false := by simp [c4]
            obtain ⟨e', hp⟩ := hpre c4
            refine ⟨e'.s, ?_⟩
            simp only [sSeq, sIf, eAnd, eOr, eNot, eB, bnd, eBin, eUn, eSub, eC, VH.ret, lift, eVar, eSh, eFz, sSet, sRet, sPut, sAsg, tgN, tgT, tgSeq, eAll, eCons, eNil, eAndV, eOrV, eNotV, eOfB, eIf, eIsN, eNotN, eNN, eNNo, eTru, sDo, sApp, sExt, sNext, oLst, oAdd, oIf, oList, eMov, eSl, ePart, eCallU, aNil, aVal, aBor, takeA, putA, List.getElem?_cons_zero, List.getElem?_cons_succ, List.set_cons_zero, List.set_cons_succ, Nat.reduceSub, Nat.reduceAdd, Nat.reduceLT, Nat.reduceLeDiff, Option.bind, Option.map, VH.keyOf, O.fzb, fz, blD, eM1, List.replicate, if_true, if_false, Bool.false_eq_true, decide_true, decide_false, beq_self_eq_true, Bool.not_true, Bool.not_false, and_self, and_true, true_and, Bool.or_true, Bool.true_or, Bool.or_false, Bool.false_or, Bool.and_true, Bool.and_false, ne_eq, not_false_eq_true, not_true_eq_false, reduceCtorEq, eq_ii, q4, sub_ii, hp, i3]
        have el := ls_ok b (e.n + 1) e.v (rest := []) (.inl rfl) (gs_gt hge)
        have p1 := add_t (cutA l none (some z)) [⟨e.n + 1, e.v, e.es, SL b (e.n + 1) e.v e.es⟩] (by have := cl none (some z); simp; omega)
        refine ⟨cutA l none (some z) ++ [⟨e.n + 1, e.v, e.es, SL b (e.n + 1) e.v e.es⟩], T3, [some (.sh (.tuple (l.map eD))), some (.sh (.int k)), some (.sh (.int z)), some (.sh (.int e.n)), some (.sh (.int e.v)), some (.sh (.tuple e.es)), some (.sh (.int e.s)), some (.sh (.list ((ones e).map eD))), some (.sh (.int (SL b (e.n + 1) e.v e.es)))], ?_, by have := cl none (some z); simp; omega, app cg fun w hw => by rw [List.mem_singleton.mp hw]; exact gs_gt hge⟩
        generalize SL b (e.n + 1) e.v e.es = sl at el p1 ⊢
        have p1' : addD (.tuple ((cutA l none (some z)).map eD)) (.tuple [.tuple [.int (e.n + 1), .int e.v, .tuple e.es, .int sl]]) = _ := p1
        have e5 : sSet 9 (eSh (eFz (eCallU r_ls (aVal (eIf (eB (eBin eqD (eVar 3) (eC (.int 0)))) (eC (.int 17)) (eBin idxD (eSub 1 (eBin subD (eVar 3) (eC (.int 1)))) (eC (.int 3)))) (aVal (eAll tupD (eCons (eBin addD (eVar 4) (eC (.int 1))) (eCons (eVar 5) (eCons (eVar 6) (eNil))))) (aNil)))))) [some (tapeO T3), some (.sh (.tuple (l.map eD))), some (.sh (.int k)), some (.sh (.int z)), some (.sh (.int e.n)), some (.sh (.int e.v)), some (.sh (.tuple e.es)), some (.sh (.int e.s)), some (.sh (.list ((ones e).map eD))), none] =
            .ok .nx [some (tapeO T3), some (.sh (.tuple (l.map eD))), some (.sh (.int k)), some (.sh (.int z)), some (.sh (.int e.n)), some (.sh (.int e.v)), some (.sh (.tuple e.es)), some (.sh (.int e.s)), some (.sh (.list ((ones e).map eD))), some (.sh (.int sl))] := by
          unfold sSet eSh eFz eCallU aVal
          simp only [bnd, eb]
          simp only [sSeq, sIf, eAnd, eOr, eNot, eB, bnd, eBin, eUn, eSub, eC, VH.ret, lift, eVar, eSh, eFz, sSet, sRet, sPut, sAsg, tgN, tgT, tgSeq, eAll, eCons, eNil, eAndV, eOrV, eNotV, eOfB, eIf, eIsN, eNotN, eNN, eNNo, eTru, sDo, sApp, sExt, sNext, oLst, oAdd, oIf, oList, eMov, eSl, ePart, eCallU, aNil, aVal, aBor, takeA, putA, List.getElem?_cons_zero, List.getElem?_cons_succ, List.set_cons_zero, List.set_cons_succ, Nat.reduceSub, Nat.reduceAdd, Nat.reduceLT, Nat.reduceLeDiff, Option.bind, Option.map, VH.keyOf, O.fzb, fz, blD, eM1, List.replicate, if_true, if_false, Bool.false_eq_true, decide_true, decide_false, beq_self_eq_true, Bool.not_true, Bool.not_false, and_self, and_true, true_and, Bool.or_true, Bool.true_or, Bool.or_false, Bool.false_or, Bool.and_true, Bool.and_false, ne_eq, not_false_eq_true, not_true_eq_false, reduceCtorEq, a_ii, t3, el, List.length_cons, List.length_nil]
        simp only [sSeq, sIf, eB, eAnd, bnd, eBin, eVar, eC, VH.ret, lift, List.getElem?_cons_zero, List.getElem?_cons_succ, O.fzb, fz, if_true, List.set_cons_zero, List.set_cons_succ, lt_ii, q1, blD, Bool.false_eq_true, if_false, sNext, eq_ii, q2, eFz, eCallU, aBor, aVal, aNil, takeA, putA, eu, q3, e5]
        simp only [sSeq, sIf, eAnd, eOr, eNot, eB, bnd, eBin, eUn, eSub, eC, VH.ret, lift, eVar, eSh, eFz, sSet, sRet, sPut, sAsg, tgN, tgT, tgSeq, eAll, eCons, eNil, eAndV, eOrV, eNotV, eOfB, eIf, eIsN, eNotN, eNN, eNNo, eTru, sDo, sApp, sExt, sNext, oLst, oAdd, oIf, oList, eMov, eSl, ePart, eCallU, aNil, aVal, aBor, takeA, putA, List.getElem?_cons_zero, List.getElem?_cons_succ, List.set_cons_zero, List.set_cons_succ, Nat.reduceSub, Nat.reduceAdd, Nat.reduceLT, Nat.reduceLeDiff, Option.bind, Option.map, VH.keyOf, O.fzb, fz, blD, eM1, List.replicate, if_true, if_false, Bool.false_eq_true, decide_true, decide_false, beq_self_eq_true, Bool.not_true, Bool.not_false, and_self, and_true, true_and, Bool.or_true, Bool.true_or, Bool.or_false, Bool.false_or, Bool.and_true, Bool.and_false, ne_eq, not_false_eq_true, not_true_eq_false, reduceCtorEq, ix_i, sl_e, a_ii, t4, t1, p1']
      · have q3 : (u == 0) = false := by simp [c3]
        have p1 := add_t (cutA l none (some z)) (cutA l (some (z + 1)) none) (by have := cl none (some z); have := cl (some (z + 1)) none; omega)
        refine ⟨cutA l none (some z) ++ cutA l (some (z + 1)) none, T3, [some (.sh (.tuple (l.map eD))), some (.sh (.int k)), some (.sh (.int z)), some (.sh (.int e.n)), some (.sh (.int e.v)), some (.sh (.tuple e.es)), some (.sh (.int e.s)), some (.sh (.list ((ones e).map eD))), none], ?_, by have := cl none (some z); have := cl (some (z + 1)) none; simp; omega, app cg cg⟩
        simp only [sSeq, sIf, eAnd, eOr, eNot, eB, bnd, eBin, eUn, eSub, eC, VH.ret, lift, eVar, eSh, eFz, sSet, sRet, sPut, sAsg, tgN, tgT, tgSeq, eAll, eCons, eNil, eAndV, eOrV, eNotV, eOfB, eIf, eIsN, eNotN, eNN, eNNo, eTru, sDo, sApp, sExt, sNext, oLst, oAdd, oIf, oList, eMov, eSl, ePart, eCallU, aNil, aVal, aBor, takeA, putA, List.getElem?_cons_zero, List.getElem?_cons_succ, List.set_cons_zero, List.set_cons_succ, Nat.reduceSub, Nat.reduceAdd, Nat.reduceLT, Nat.reduceLeDiff, Option.bind, Option.map, VH.keyOf, O.fzb, fz, blD, eM1, List.replicate, if_true, if_false, Bool.false_eq_true, decide_true, decide_false, beq_self_eq_true, Bool.not_true, Bool.not_false, and_self, and_true, true_and, Bool.or_true, Bool.true_or, Bool.or_false, Bool.false_or, Bool.and_true, Bool.and_false, ne_eq, not_false_eq_true, not_true_eq_false, reduceCtorEq, lt_ii, q1, eq_ii, q2, eu, q3, ix_i, sl_e, a_ii, p1]
    · have q2 : (k == 5) = false := by simp [c2]
      have p1 := add_t (cutA l none (some z)) (cutA l (some z) (some (z + 1))) (by have := cl none (some z); have := cl (some z) (some (z + 1)); omega)
      have p2 := add_t (cutA l none (some z) ++ cutA l (some z) (some (z + 1))) (cutA l (some z) none) (by have := cl none (some z); have := cl (some z) (some (z + 1)); have := cl (some z) none; simp; omega)
      refine ⟨(cutA l none (some z) ++ cutA l (some z) (some (z + 1))) ++ cutA l (some z) none, T2, [some (.sh (.tuple (l.map eD))), some (.sh (.int k)), some (.sh (.int z)), some (.sh (.int e.n)), some (.sh (.int e.v)), some (.sh (.tuple e.es)), some (.sh (.int e.s)), some (.sh (.list ((ones e).map eD))), none], ?_, by have := cl none (some z); have := cl (some z) (some (z + 1)); have := cl (some z) none; simp; omega, app (app cg cg) cg⟩
      simp only [sSeq, sIf, eAnd, eOr, eNot, eB, bnd, eBin, eUn, eSub, eC, VH.ret, lift, eVar, eSh, eFz, sSet, sRet, sPut, sAsg, tgN, tgT, tgSeq, eAll, eCons, eNil, eAndV, eOrV, eNotV, eOfB, eIf, eIsN, eNotN, eNN, eNNo, eTru, sDo, sApp, sExt, sNext, oLst, oAdd, oIf, oList, eMov, eSl, ePart, eCallU, aNil, aVal, aBor, takeA, putA, List.getElem?_cons_zero, List.getElem?_cons_succ, List.set_cons_zero, List.set_cons_succ, Nat.reduceSub, Nat.reduceAdd, Nat.reduceLT, Nat.reduceLeDiff, Option.bind, Option.map, VH.keyOf, O.fzb, fz, blD, eM1, List.replicate, if_true, if_false, Bool.false_eq_true, decide_true, decide_false, beq_self_eq_true, Bool.not_true, Bool.not_false, and_self, and_true, true_and, Bool.or_true, Bool.true_or, Bool.or_false, Bool.false_or, Bool.and_true, Bool.and_false, ne_eq, not_false_eq_true, not_true_eq_false, reduceCtorEq, lt_ii, q1, eq_ii, q2, ix_i, sl_e, a_ii, p1, p2]
theorem sp_ok (T : Tape) (l : List Ent) (h0 : 0 < l.length) (h6 : l.length ≤ 6) (hg : ∀ e ∈ l, Gs e) : ∃ (l' : List Ent) (T' : Tape), r_sp [tapeO T, .sh (.tuple (l.map eD))] = .ok (.sh (.tuple (l'.map eD))) [some (tapeO T'), none] ∧ l'.length ≤ 20 ∧ ∀ e ∈ l', Gt e.es := by
  obtain ⟨k, T1, ek, k0, k1⟩ := take_ex T (m := 7) (by decide) (by decide)
  obtain ⟨a, T2, ea, a0, a1⟩ := take_ex T1 (m := l.length) (by omega) (by omega)
  obtain ⟨i, rfl⟩ := Int.eq_ofNat_of_zero_le a0
  have hi : i < l.length := by omega
  refine sp_core T T1 T2 l h6 hg k i l.length l[i] k0 ek ?_ ea ?_ (hg l[i] (List.getElem_mem hi)) ?_
  · show some (PyData.int (l.map eD).length) = _
    rw [List.length_map]
  · show atI _ _ = _
    rw [atI_in (by simpa using hi)]
    simp
  · intro hj
    refine ⟨l[i - 1]'(by omega), ?_⟩
    have : (i : Int) - 1 = ((i - 1 : Nat) : Int) := by omega
    rw [this]
    show atI _ _ = _
    rw [atI_in (by simp; omega)]
    simp
end K86
set_option Elab.async false
set_option linter.all false
set_option maxRecDepth 100000
set_option maxHeartbeats 4000000
namespace K86
open PySem PySem.Spec PyProof.Rows L2 VH
/-! ### the tape -/
def r_tp : List O → Rs O := fnRun bs__law_tape 4 b__law_tape
def T0 (ns : List Int) (s : Int) : Tape := ⟨ns.map fun n => ((n.natAbs : Nat) : Int), 0, 0, s, 0⟩
theorem c31 (x : Int) : ((-(2 ^ 64) < x ∧ x < 2 ^ 64) ∨ (-(2 ^ 64) < (31 : Int) ∧ (31 : Int) < 2 ^ 64)) := .inr (by decide)
theorem m31 (b : Int) : mulD (.int b) (.int 31) = some (.int (b * 31)) := by simp only [mulD, if_pos (c31 b)]
theorem m214 (b : Int) : modD (.int b) (.int 2147483647) = some (.int (b % 2147483647)) := by simp only [modD, if_pos (show (0 : Int) < 2147483647 by decide)]
theorem abs_i (n : Int) : absD [.int n] = some (.int (n.natAbs : Nat)) := by
  unfold absD
  dsimp only
  congr 2
  split <;> omega
theorem tp_comp (s : O) : ∀ ns : List Int, compM (tgN 2) [2] (VH.ret true) (eAll absD (eCons (eAll VH.intD (eCons (eVar 2) (eNil))) (eNil))) (ns.map .int) [some s, none, none, none] = .ok ((ns.map fun n => ((n.natAbs : Nat) : Int)).map .int) [some s, none, none, none]
  | [] => rfl
  | n :: ns => by
    have e1 : eAll absD (eCons (eAll VH.intD (eCons (eVar 2) (eNil))) (eNil)) [some s, none, some (.sh (.int n)), none] = .ok (.int (n.natAbs : Nat)) [some s, none, some (.sh (.int n)), none] := by simp only [sSeq, sIf, eAnd, eOr, eNot, eB, bnd, eBin, eUn, eSub, eC, VH.ret, lift, eVar, eSh, eFz, sSet, sRet, sPut, sAsg, tgN, tgT, tgSeq, eAll, eCons, eNil, eAndV, eOrV, eNotV, eOfB, eIf, eIsN, eNotN, eNN, eNNo, eTru, sDo, sApp, sExt, sNext, oLst, oAdd, oIf, oList, eMov, eSl, ePart, eCallU, aNil, aVal, aBor, takeA, putA, List.getElem?_cons_zero, List.getElem?_cons_succ, List.set_cons_zero, List.set_cons_succ, Nat.reduceSub, Nat.reduceAdd, Nat.reduceLT, Nat.reduceLeDiff, Option.bind, Option.map, VH.keyOf, O.fzb, fz, blD, eM1, List.replicate, if_true, if_false, Bool.false_eq_true, decide_true, decide_false, beq_self_eq_true, Bool.not_true, Bool.not_false, and_self, and_true, true_and, Bool.or_true, Bool.true_or, Bool.or_false, Bool.false_or, Bool.and_true, Bool.and_false, ne_eq, not_false_eq_true, not_true_eq_false, reduceCtorEq, i_i, abs_i]
    have e2 := tp_comp s ns
    have et : tgN 2 (.int n) [some s, none, none, none] = some [some s, none, some (.sh (.int n)), none] := rfl
    have ed : dropE [2] [some s, none, some (.sh (.int n)), none] = [some s, none, none, none] := rfl
    rw [List.map_cons, compM]
    simp only [et, VH.ret, if_true, e1, ed, e2, List.map_cons]
theorem tp_loop (s c : O) : ∀ (ns : List Int) (b : Int) (u : Option O), ∃ (b' : Int) (u' : Option O), loopS (tgN 2) (sSet 3 (eSh (eBin modD (eAll VH.intD (eCons (eBin addD (eBin mulD (eVar 3) (eC (.int 31))) (eVar 2)) (eNil))) (eC (.int 2147483647))))) (ns.map .int) [some s, some c, u, some (.sh (.int b))] = .ok .nx [some s, some c, u', some (.sh (.int b'))]
  | [], b, u => ⟨b, u, rfl⟩
  | n :: ns, b, u => by
    obtain ⟨b', u', e⟩ := tp_loop s c ns ((b * 31 + n) % 2147483647) (some (.sh (.int n)))
    refine ⟨b', u', ?_⟩
    have e1 : sSet 3 (eSh (eBin modD (eAll VH.intD (eCons (eBin addD (eBin mulD (eVar 3) (eC (.int 31))) (eVar 2)) (eNil))) (eC (.int 2147483647)))) [some s, some c, some (.sh (.int n)), some (.sh (.int b))] = .ok .nx [some s, some c, some (.sh (.int n)), some (.sh (.int ((b * 31 + n) % 2147483647)))] := by
      simp only [sSeq, sIf, eAnd, eOr, eNot, eB, bnd, eBin, eUn, eSub, eC, VH.ret, lift, eVar, eSh, eFz, sSet, sRet, sPut, sAsg, tgN, tgT, tgSeq, eAll, eCons, eNil, eAndV, eOrV, eNotV, eOfB, eIf, eIsN, eNotN, eNN, eNNo, eTru, sDo, sApp, sExt, sNext, oLst, oAdd, oIf, oList, eMov, eSl, ePart, eCallU, aNil, aVal, aBor, takeA, putA, List.getElem?_cons_zero, List.getElem?_cons_succ, List.set_cons_zero, List.set_cons_succ, Nat.reduceSub, Nat.reduceAdd, Nat.reduceLT, Nat.reduceLeDiff, Option.bind, Option.map, VH.keyOf, O.fzb, fz, blD, eM1, List.replicate, if_true, if_false, Bool.false_eq_true, decide_true, decide_false, beq_self_eq_true, Bool.not_true, Bool.not_false, and_self, and_true, true_and, Bool.or_true, Bool.true_or, Bool.or_false, Bool.false_or, Bool.and_true, Bool.and_false, ne_eq, not_false_eq_true, not_true_eq_false, reduceCtorEq, m31, a_ii, i_i, m214, List.length_cons, List.length_nil]
    rw [List.map_cons, loop_cons (env1 := [some s, some c, some (.sh (.int n)), some (.sh (.int b))]) rfl e1]
    exact e
theorem run1t {b : En → Rs Fl} {tot : Nat} {o d1 : O} (h : ∃ rest, b ([d1].map some ++ List.replicate (tot - 1) none) = .ok (.ret o) (some d1 :: rest)) : fnRun [true] tot b [d1] = .ok o [some d1] := by
  obtain ⟨rest, h⟩ := h
  refine (run_ok (os := [d1]) (bs := [true]) h).trans ?_
  cases rest <;> rfl
theorem md_tape (c a l s x : D) : shK (mergeD [] [(kc, c), (ka, a), (kl, l), (ks, s), (kx, x)]) = tapeK (.sh c) (.sh a) (.sh l) (.sh s) (.sh x) := by
  simp only [mergeD, putD, List.any_nil, List.any_cons, List.nil_append, List.cons_append, decide_eq_false n_ca, decide_eq_false n_cl, decide_eq_false n_cs, decide_eq_false n_cx, decide_eq_false n_al, decide_eq_false n_as, decide_eq_false n_ax, decide_eq_false n_ls, decide_eq_false n_lx, decide_eq_false n_sx, Bool.or_false, Bool.false_eq_true, if_false]
  rfl
theorem tp_dic (cs : List Int) (s u : Option O) (b : Int) : sRet (oDic [(eC (.str (Str.ofString "cells")), eVar 1), (eC (.str (Str.ofString "at")), eC (.int 0)), (eC (.str (Str.ofString "left")), eC (.int 0)), (eC (.str (Str.ofString "seed")), eVar 3), (eC (.str (Str.ofString "salt")), eC (.int 0))]) [s, some (.sh (.list (cs.map .int))), u, some (.sh (.int b))] =
    .ok (.ret (tapeO ⟨cs, 0, 0, b, 0⟩)) [s, some (.sh (.list (cs.map .int))), u, some (.sh (.int b))] := by
  have hk : keysD [(.str (Str.ofString "cells"), .list (cs.map .int)), (.str (Str.ofString "at"), .int 0), (.str (Str.ofString "left"), .int 0), (.str (Str.ofString "seed"), .int b), (.str (Str.ofString "salt"), .int 0)] = some [(kc, .list (cs.map .int)), (ka, .int 0), (kl, .int 0), (ks, .int b), (kx, .int 0)] := rfl
  have hm := md_tape (.list (cs.map .int)) (.int 0) (.int 0) (.int b) (.int 0)
  simp only [sRet, bnd, oDic, ePairs, eC, VH.ret, eVar, List.getElem?_cons_zero, List.getElem?_cons_succ, O.fzb, fz, if_true, List.set_cons_succ, List.set_cons_zero, hk, List.length_cons, List.length_nil, Nat.reduceAdd, Nat.reduceLeDiff, hm]
  rfl
theorem tp_ok (ns : List Int) : ∃ T : Tape, r_tp [.scr ns] = .ok (tapeO T) [some (.scr ns)] := by
  obtain ⟨b', u', e⟩ := tp_loop (.scr ns) (.sh (.list ((ns.map fun n => ((n.natAbs : Nat) : Int)).map .int))) (ns.map fun n => ((n.natAbs : Nat) : Int)) 7 none
  refine ⟨T0 ns b', run1t ?_⟩
  have cm := tp_comp (.scr ns) ns
  have e1 : sSet 1 (oComp (eScr 0) (tgN 2) [2] (VH.ret true) (eAll absD (eCons (eAll VH.intD (eCons (eVar 2) (eNil))) (eNil)))) [some (.scr ns), none, none, none] = .ok .nx [some (.scr ns), some (.lst ((ns.map fun n => ((n.natAbs : Nat) : Int)).map .int)), none, none] := by
    unfold sSet oComp eScr
    simp only [bnd, List.getElem?_cons_zero, dropE, List.set_cons_succ, List.set_cons_zero, cm, List.length_cons, List.length_nil, Nat.reduceAdd, Nat.reduceLT, if_true]
  have e2 : sSet 3 (eSh (eC (.int 7))) [some (.scr ns), some (.lst ((ns.map fun n => ((n.natAbs : Nat) : Int)).map .int)), none, none] = .ok .nx [some (.scr ns), some (.lst ((ns.map fun n => ((n.natAbs : Nat) : Int)).map .int)), none, some (.sh (.int 7))] := by simp only [sSeq, sIf, eAnd, eOr, eNot, eB, bnd, eBin, eUn, eSub, eC, VH.ret, lift, eVar, eSh, eFz, sSet, sRet, sPut, sAsg, tgN, tgT, tgSeq, eAll, eCons, eNil, eAndV, eOrV, eNotV, eOfB, eIf, eIsN, eNotN, eNN, eNNo, eTru, sDo, sApp, sExt, sNext, oLst, oAdd, oIf, oList, eMov, eSl, ePart, eCallU, aNil, aVal, aBor, takeA, putA, List.getElem?_cons_zero, List.getElem?_cons_succ, List.set_cons_zero, List.set_cons_succ, Nat.reduceSub, Nat.reduceAdd, Nat.reduceLT, Nat.reduceLeDiff, Option.bind, Option.map, VH.keyOf, O.fzb, fz, blD, eM1, List.replicate, if_true, if_false, Bool.false_eq_true, decide_true, decide_false, beq_self_eq_true, Bool.not_true, Bool.not_false, and_self, and_true, true_and, Bool.or_true, Bool.true_or, Bool.or_false, Bool.false_or, Bool.and_true, Bool.and_false, ne_eq, not_false_eq_true, not_true_eq_false, reduceCtorEq, List.length_cons, List.length_nil]
  have e3 : eSeq (eVar 1) [some (.scr ns), some (.lst ((ns.map fun n => ((n.natAbs : Nat) : Int)).map .int)), none, some (.sh (.int 7))] = .ok ((ns.map fun n => ((n.natAbs : Nat) : Int)).map .int) [some (.scr ns), some (.sh (.list ((ns.map fun n => ((n.natAbs : Nat) : Int)).map .int))), none, some (.sh (.int 7))] := by simp only [sSeq, sIf, eAnd, eOr, eNot, eB, bnd, eBin, eUn, eSub, eC, VH.ret, lift, eVar, eSh, eFz, sSet, sRet, sPut, sAsg, tgN, tgT, tgSeq, eAll, eCons, eNil, eAndV, eOrV, eNotV, eOfB, eIf, eIsN, eNotN, eNN, eNNo, eTru, sDo, sApp, sExt, sNext, oLst, oAdd, oIf, oList, eMov, eSl, ePart, eCallU, aNil, aVal, aBor, takeA, putA, List.getElem?_cons_zero, List.getElem?_cons_succ, List.set_cons_zero, List.set_cons_succ, Nat.reduceSub, Nat.reduceAdd, Nat.reduceLT, Nat.reduceLeDiff, Option.bind, Option.map, VH.keyOf, O.fzb, fz, blD, eM1, List.replicate, if_true, if_false, Bool.false_eq_true, decide_true, decide_false, beq_self_eq_true, Bool.not_true, Bool.not_false, and_self, and_true, true_and, Bool.or_true, Bool.true_or, Bool.or_false, Bool.false_or, Bool.and_true, Bool.and_false, ne_eq, not_false_eq_true, not_true_eq_false, reduceCtorEq, eSeq, itemsD]
  have e4 := tp_dic (ns.map fun n => ((n.natAbs : Nat) : Int)) (some (.scr ns)) u' b'
  exact ⟨_, (seq_ok e1).trans ((seq_ok e2).trans ((seq_ok (for_ok e3 e)).trans e4))⟩
end K86
set_option Elab.async false
set_option linter.all false
set_option maxRecDepth 100000
set_option maxHeartbeats 4000000
namespace K86
open PySem PySem.Spec PyProof.Rows L2 VH
abbrev Wr := Int × List D
def Gw (w : Wr) : Prop := w.2.length ≤ 3 ∧ ∀ x ∈ w.2, Ed x
theorem log_gs : ∀ (ws : List Wr) (k : Nat) (b : Int), (∀ w ∈ ws, Gw w) → ∀ e ∈ logOf k b ws, Gs e
  | [], _, _, _, _, he => nomatch he
  | w :: ws, k, b, h, e, he => by
    rw [logOf_cons] at he
    rcases List.mem_cons.mp he with rfl | he
    · exact h w List.mem_cons_self
    · exact log_gs ws _ _ (fun y hy => h y (List.mem_cons_of_mem _ hy)) e he
theorem log_len : ∀ (ws : List Wr) (k : Nat) (b : Int), (logOf k b ws).length = ws.length
  | [], _, _ => rfl
  | w :: ws, k, b => by rw [logOf_cons, List.length_cons, List.length_cons, log_len ws]
theorem gd_ent {e : Ent} (h : Gs e) : Gd 5 (eD e) := ⟨by simp, fun x hx => by
  simp only [List.mem_cons, List.not_mem_nil, or_false] at hx
  rcases hx with rfl | rfl | rfl | rfl
  · trivial
  · trivial
  · exact ⟨by have := h.1; omega, h.2⟩
  · trivial⟩
theorem gd_log {l : List Ent} (h6 : l.length ≤ 6) (h : ∀ e ∈ l, Gs e) : Gd 6 (.tuple (l.map eD)) := ⟨by rw [List.length_map]; exact h6, fun x hx => by
  obtain ⟨e, he, rfl⟩ := List.mem_map.mp hx
  exact gd_ent (h e he)⟩
theorem writes_of : ∀ ys : List D, (∀ y ∈ ys, ∃ w : Wr, y = wD w ∧ Gw w) → ∃ ws : List Wr, ys = ws.map wD ∧ ∀ w ∈ ws, Gw w
  | [], _ => ⟨[], rfl, fun _ h => nomatch h⟩
  | y :: ys, h => by
    obtain ⟨w, rfl, hw⟩ := h y List.mem_cons_self
    obtain ⟨ws, rfl, hs⟩ := writes_of ys fun z hz => h z (List.mem_cons_of_mem _ hz)
    refine ⟨w :: ws, rfl, fun z hz => ?_⟩
    rcases List.mem_cons.mp hz with rfl | hz
    · exact hw
    · exact hs z hz
theorem t2 (a b : D) : tupD [a, b] = some (.tuple [a, b]) := rfl
theorem w_comp (s : Option O) (n : Nat) (T : Tape) : ∃ (ws : List Wr) (T' : Tape), compM (tgN 3) [3] (VH.ret true) (eAll tupD (eCons (eFz (eCallU r_take (aBor 1 (aVal (eC (.int 4)) (aNil))))) (eCons (eFz (eCallU r_edits (aBor 1 (aNil)))) (eNil)))) (rngL 0 n) [s, some (tapeO T), none, none, none, none, none, none] =
    .ok (ws.map wD) [s, some (tapeO T'), none, none, none, none, none, none] ∧ ws.length = n ∧ ∀ w ∈ ws, Gw w := by
  obtain ⟨ys, T', e, l, h⟩ := comp_gen (tg := tgN 3) (ix := [3]) (fe := eAll tupD (eCons (eFz (eCallU r_take (aBor 1 (aVal (eC (.int 4)) (aNil))))) (eCons (eFz (eCallU r_edits (aBor 1 (aNil)))) (eNil)))) (P := fun y => ∃ w : Wr, y = wD w ∧ Gw w) (mk := fun T => [s, some (tapeO T), none, none, none, none, none, none]) (fun T d => by
    obtain ⟨v, T1, e1, _, _⟩ := take_ex T (m := 4) (by decide) (by decide)
    obtain ⟨es, T2, e2, l2, h2⟩ := edits_ex T1
    refine ⟨[s, some (tapeO T), none, some (.sh d), none, none, none, none], wD (v, es), [s, some (tapeO T2), none, some (.sh d), none, none, none, none], T2, rfl, ?_, rfl, (v, es), rfl, l2, h2⟩
    have q : wD (v, es) = .tuple [.int v, .list es] := rfl
    simp only [sSeq, sIf, eAnd, eOr, eNot, eB, bnd, eBin, eUn, eSub, eC, VH.ret, lift, eVar, eSh, eFz, sSet, sRet, sPut, sAsg, tgN, tgT, tgSeq, eAll, eCons, eNil, eAndV, eOrV, eNotV, eOfB, eIf, eIsN, eNotN, eNN, eNNo, eTru, sDo, sApp, sExt, sNext, oLst, oAdd, oIf, oList, eMov, eSl, ePart, eCallU, aNil, aVal, aBor, takeA, putA, List.getElem?_cons_zero, List.getElem?_cons_succ, List.set_cons_zero, List.set_cons_succ, Nat.reduceSub, Nat.reduceAdd, Nat.reduceLT, Nat.reduceLeDiff, Option.bind, Option.map, VH.keyOf, O.fzb, fz, blD, eM1, List.replicate, if_true, if_false, Bool.false_eq_true, decide_true, decide_false, beq_self_eq_true, Bool.not_true, Bool.not_false, and_self, and_true, true_and, Bool.or_true, Bool.true_or, Bool.or_false, Bool.false_or, Bool.and_true, Bool.and_false, ne_eq, not_false_eq_true, not_true_eq_false, reduceCtorEq, e1, e2, t2, q]) (rngL 0 n) T
  obtain ⟨ws, rfl, hs⟩ := writes_of ys h
  have hn : (rngL 0 n).length = n := by simp [rngL]
  exact ⟨ws, T', e, by rw [List.length_map] at l; omega, hs⟩
/-! ### what is due -/
def duB : En → Rs Fl := sSeq (sSet 6 (eSh (eFz (eCallU r_ls (aVal (eVar 6) (aVal (eAll tupD (eCons (eVar 3) (eCons (eBin idxD (eSub 2 (eVar 3)) (eC (.int 0))) (eCons (eAll tupOfD (eCons (eBin idxD (eSub 2 (eVar 3)) (eC (.int 1))) (eNil))) (eNil))))) (aNil))))))) (sApp 5 (eAll tupD (eCons (eVar 3) (eCons (eBin idxD (eSub 2 (eVar 3)) (eC (.int 0))) (eCons (eAll tupOfD (eCons (eBin idxD (eSub 2 (eVar 3)) (eC (.int 1))) (eNil))) (eCons (eVar 6) (eNil)))))))
theorem w0 (w : Wr) : idxD (wD w) (.int 0) = some (.int w.1) := rfl
theorem w1 (w : Wr) : idxD (wD w) (.int 1) = some (.list w.2) := rfl
theorem du_body (s t L : Option O) (W : List D) (k : Nat) (b : Int) (acc : List Ent) (w : Wr) (ha : idxD (.list W) (.int k) = some (wD w)) (hw : Gw w) (hl : acc.length < 1000) (u : Option O) :
    duB [s, t, some (.sh (.list W)), some (.sh (.int k)), L, some (.lst (acc.map eD)), some (.sh (.int b)), u] = .ok .nx [s, t, some (.sh (.list W)), some (.sh (.int k)), L, some (.lst ((acc ++ [en1 k b w]).map eD)), some (.sh (.int (SL b k w.1 w.2))), u] := by
  have hL := line_big
  have hq : acc.length < sizeLine := by omega
  have eg := ls_ok b k w.1 (rest := []) (.inl rfl) (⟨by have := hw.1; omega, hw.2⟩ : Gt w.2)
  have een := eD_en k b w
  generalize en1 k b w = en at een ⊢
  generalize SL b k w.1 w.2 = z at eg een ⊢
  unfold duB
  simp only [sSeq, sIf, eAnd, eOr, eNot, eB, bnd, eBin, eUn, eSub, eC, VH.ret, lift, eVar, eSh, eFz, sSet, sRet, sPut, sAsg, tgN, tgT, tgSeq, eAll, eCons, eNil, eAndV, eOrV, eNotV, eOfB, eIf, eIsN, eNotN, eNN, eNNo, eTru, sDo, sApp, sExt, sNext, oLst, oAdd, oIf, oList, eMov, eSl, ePart, eCallU, aNil, aVal, aBor, takeA, putA, List.getElem?_cons_zero, List.getElem?_cons_succ, List.set_cons_zero, List.set_cons_succ, Nat.reduceSub, Nat.reduceAdd, Nat.reduceLT, Nat.reduceLeDiff, Option.bind, Option.map, VH.keyOf, O.fzb, fz, blD, eM1, List.replicate, if_true, if_false, Bool.false_eq_true, decide_true, decide_false, beq_self_eq_true, Bool.not_true, Bool.not_false, and_self, and_true, true_and, Bool.or_true, Bool.true_or, Bool.or_false, Bool.false_or, Bool.and_true, Bool.and_false, ne_eq, not_false_eq_true, not_true_eq_false, reduceCtorEq, ha, w0, w1, tl, t3, eg, t4, List.length_cons, List.length_nil, List.length_map, if_pos hq, List.map_append, List.map_cons (f := eD), List.map_nil, een]
theorem du_loop (s t L u : Option O) (W : List D) : ∀ (ws : List Wr) (pre : List D) (k3 : Option O) (b : Int) (acc : List Ent), W = pre ++ ws.map wD → (∀ w ∈ ws, Gw w) → acc.length + ws.length ≤ 1000 →
    ∃ (b' : Int) (k' : Option O), loopS (tgN 3) duB (rngL pre.length ws.length) [s, t, some (.sh (.list W)), k3, L, some (.lst (acc.map eD)), some (.sh (.int b)), u] = .ok .nx [s, t, some (.sh (.list W)), k', L, some (.lst ((acc ++ logOf pre.length b ws).map eD)), some (.sh (.int b')), u]
  | [], pre, k3, b, acc, _, _, _ => ⟨b, k3, by rw [show logOf pre.length b [] = [] from rfl, List.append_nil]; rfl⟩
  | w :: ws, pre, k3, b, acc, hW, hw, hl => by
    have hl' : acc.length + (ws.length + 1) ≤ 1000 := hl
    have eb := du_body s t L W pre.length b acc w (by rw [hW, List.map_cons]; exact idx_atL) (hw w List.mem_cons_self) (by omega) u
    obtain ⟨b', k', e⟩ := du_loop s t L u W ws (pre ++ [wD w]) (some (.sh (.int pre.length))) (SL b pre.length w.1 w.2) (acc ++ [en1 pre.length b w]) (by rw [hW]; simp) (fun y hy => hw y (List.mem_cons_of_mem _ hy)) (by simp; omega)
    refine ⟨b', k', ?_⟩
    rw [List.length_cons, rngL_succ, loop_cons (env1 := [s, t, some (.sh (.list W)), some (.sh (.int pre.length)), L, some (.lst (acc.map eD)), some (.sh (.int b)), u]) rfl eb, logOf_cons]
    rw [List.length_append, List.length_singleton, Int.natCast_add, Int.natCast_one, List.append_assoc, List.cons_append, List.nil_append] at e
    exact e
theorem du_loop0 (s t L u : Option O) (ws : List Wr) (k3 : Option O) (hw : ∀ w ∈ ws, Gw w) (hl : ws.length ≤ 1000) :
    ∃ (b' : Int) (k' : Option O), loopS (tgN 3) duB (rngL 0 ws.length) [s, t, some (.sh (.list (ws.map wD))), k3, L, some (.lst []), some (.sh (.int 17)), u] = .ok .nx [s, t, some (.sh (.list (ws.map wD))), k', L, some (.lst ((logOf 0 17 ws).map eD)), some (.sh (.int b')), u] := by
  obtain ⟨b', k', e⟩ := du_loop s t L u (ws.map wD) ws [] k3 17 [] rfl hw (by simpa using hl)
  refine ⟨b', k', ?_⟩
  rw [List.length_nil, Int.natCast_zero, List.nil_append, List.map_nil] at e
  exact e
end K86
set_option Elab.async false
set_option linter.all false
set_option maxRecDepth 100000
set_option maxHeartbeats 4000000
namespace K86
open PySem PySem.Spec PyProof.Rows L2 VH
structure Fs (rsm rfb rsp rlb : List O → Rs O) : Prop where
  sm : ∀ d, Gd 6 d → rsm [.sh d, .sh d] = .ok (.sh (.bool true)) [none, none]
  fb : ∀ l : List Ent, (∀ e ∈ l, Gt e.es) → rfb [.sh (.tuple (l.map eD))] = .ok (.sh (oN (fbk 0 17 l))) [none]
  lb : ∀ l : List Ent, l.length ≤ 1000 → (∀ e ∈ l, Gt e.es) → rlb [.sh (.tuple (l.map eD))] = .ok (.sh (oN (fbk 0 17 l))) [none]
  sp : ∀ (T : Tape) (l : List Ent), 0 < l.length → l.length ≤ 6 → (∀ e ∈ l, Gs e) → ∃ (l' : List Ent) (T' : Tape), rsp [tapeO T, .sh (.tuple (l.map eD))] = .ok (.sh (.tuple (l'.map eD))) [some (tapeO T'), none] ∧ l'.length ≤ 20 ∧ ∀ e ∈ l', Gt e.es
theorem gd_oN (o : Option Nat) : Gd 6 (oN o) := by cases o <;> trivial
theorem la_ok {rsm rfb rsp rlb : List O → Rs O} (F : Fs rsm rfb rsp rlb) (s t W : O) (k3 : Option O) (L : O) (log : List Ent) (hL : L = .sh (.tuple (log.map eD))) (h6 : log.length ≤ 6) (hg : ∀ e ∈ log, Gs e) (hf : fbk 0 17 log = none) (b u : Option O) :
    sIf (eOr (eNot (eB (eFz (eCallU (rsm) (aVal (eVar 4) (aVal (eAll tupOfD (eCons (eVar 5) (eNil))) (aNil))))))) (eOr (eNNo (eFz (eCallU rfb (aVal (eVar 4) (aNil))))) (eOr (eB (eBin neD (eFz (eCallU r_sd (aVal (eAll lstD (eNil)) (aNil)))) (eAll tupD (eNil)))) (eNNo (eFz (eCallU rfb (aVal (eAll tupD (eNil)) (aNil)))))))) (sRet (eSh (eC (.bool false)))) (sNext)
      [some s, some t, some W, k3, some L, some (.lst (log.map eD)), b, u] = .ok .nx [some s, some t, some W, k3, some L, some (.sh (.list (log.map eD))), b, u] := by
  subst hL
  have q1 := F.sm _ (gd_log h6 hg)
  have q2 := F.fb log fun e he => gs_gt (hg e he)
  rw [hf] at q2
  have q3 : r_sd [.sh (.list [])] = .ok (.sh (.tuple [])) [none] := sd_ok [] (fun _ h => nomatch h) (by simp)
  have q4 : rfb [.sh (.tuple [])] = .ok (.sh .none) [none] := F.fb [] fun _ h => nomatch h
  have q5 : lstD [] = some (.list []) := rfl
  have q6 : tupD [] = some (.tuple []) := rfl
  have q7 : neD (.tuple []) (.tuple []) = some (.bool false) := by rfl
  simp only [sSeq, sIf, eAnd, eOr, eNot, eB, bnd, eBin, eUn, eSub, eC, VH.ret, lift, eVar, eSh, eFz, sSet, sRet, sPut, sAsg, tgN, tgT, tgSeq, eAll, eCons, eNil, eAndV, eOrV, eNotV, eOfB, eIf, eIsN, eNotN, eNN, eNNo, eTru, sDo, sApp, sExt, sNext, oLst, oAdd, oIf, oList, eMov, eSl, ePart, eCallU, aNil, aVal, aBor, takeA, putA, List.getElem?_cons_zero, List.getElem?_cons_succ, List.set_cons_zero, List.set_cons_succ, Nat.reduceSub, Nat.reduceAdd, Nat.reduceLT, Nat.reduceLeDiff, Option.bind, Option.map, VH.keyOf, O.fzb, fz, blD, eM1, List.replicate, if_true, if_false, Bool.false_eq_true, decide_true, decide_false, beq_self_eq_true, Bool.not_true, Bool.not_false, and_self, and_true, true_and, Bool.or_true, Bool.true_or, Bool.or_false, Bool.false_or, Bool.and_true, Bool.and_false, ne_eq, not_false_eq_true, not_true_eq_false, reduceCtorEq, q1, q2, q3, q4, q5, q6, q7, tl, oN, isN]
theorem sp_turn {rsm rfb rsp rlb : List O → Rs O} (F : Fs rsm rfb rsp rlb) (s W L D' b u u3 : Option O) (T : Tape) (l : List Ent) (h0 : 0 < l.length) (h6 : l.length ≤ 6) (hg : ∀ e ∈ l, Gs e) : ∃ (T' : Tape) (u' : Option O), (sSeq (sSet 7 (eSh (eFz (eCallU rsp (aBor 1 (aVal (eVar 4) (aNil))))))) (sIf (eNot (eB (eFz (eCallU (rsm) (aVal (eFz (eCallU rfb (aVal (eVar 7) (aNil)))) (aVal (eFz (eCallU rlb (aVal (eVar 7) (aNil)))) (aNil))))))) (sRet (eSh (eC (.bool false)))) (sNext)))
      [s, some (tapeO T), W, u3, some (.sh (.tuple (l.map eD))), D', b, u] = .ok .nx [s, some (tapeO T'), W, u3, some (.sh (.tuple (l.map eD))), D', b, u'] := by
  obtain ⟨l', T', e, h20, hgt⟩ := F.sp T l h0 h6 hg
  refine ⟨T', some (.sh (.tuple (l'.map eD))), ?_⟩
  have q1 := F.fb l' hgt
  have q2 := F.lb l' (by omega) hgt
  have q3 := F.sm _ (gd_oN (fbk 0 17 l'))
  simp only [sSeq, sIf, eAnd, eOr, eNot, eB, bnd, eBin, eUn, eSub, eC, VH.ret, lift, eVar, eSh, eFz, sSet, sRet, sPut, sAsg, tgN, tgT, tgSeq, eAll, eCons, eNil, eAndV, eOrV, eNotV, eOfB, eIf, eIsN, eNotN, eNN, eNNo, eTru, sDo, sApp, sExt, sNext, oLst, oAdd, oIf, oList, eMov, eSl, ePart, eCallU, aNil, aVal, aBor, takeA, putA, List.getElem?_cons_zero, List.getElem?_cons_succ, List.set_cons_zero, List.set_cons_succ, Nat.reduceSub, Nat.reduceAdd, Nat.reduceLT, Nat.reduceLeDiff, Option.bind, Option.map, VH.keyOf, O.fzb, fz, blD, eM1, List.replicate, if_true, if_false, Bool.false_eq_true, decide_true, decide_false, beq_self_eq_true, Bool.not_true, Bool.not_false, and_self, and_true, true_and, Bool.or_true, Bool.true_or, Bool.or_false, Bool.false_or, Bool.and_true, Bool.and_false, ne_eq, not_false_eq_true, not_true_eq_false, reduceCtorEq, e, q1, q2, q3, List.length_cons, List.length_nil]
theorem e_rng_len2 {c d : Option O} {x : D} {z : Int} {items : List D} (h2 : VH.lenD [x] = some (.int z)) (h3 : rng1D (.int z) = some items) (r : En) : eRng (eAll VH.lenD (eCons (eVar 2) (eNil))) (c :: d :: some (.sh x) :: r) = .ok items (c :: d :: some (.sh x) :: r) := by
  simp only [sSeq, sIf, eAnd, eOr, eNot, eB, bnd, eBin, eUn, eSub, eC, VH.ret, lift, eVar, eSh, eFz, sSet, sRet, sPut, sAsg, tgN, tgT, tgSeq, eAll, eCons, eNil, eAndV, eOrV, eNotV, eOfB, eIf, eIsN, eNotN, eNN, eNNo, eTru, sDo, sApp, sExt, sNext, oLst, oAdd, oIf, oList, eMov, eSl, ePart, eCallU, aNil, aVal, aBor, takeA, putA, List.getElem?_cons_zero, List.getElem?_cons_succ, List.set_cons_zero, List.set_cons_succ, Nat.reduceSub, Nat.reduceAdd, Nat.reduceLT, Nat.reduceLeDiff, Option.bind, Option.map, VH.keyOf, O.fzb, fz, blD, eM1, List.replicate, if_true, if_false, Bool.false_eq_true, decide_true, decide_false, beq_self_eq_true, Bool.not_true, Bool.not_false, and_self, and_true, true_and, Bool.or_true, Bool.true_or, Bool.or_false, Bool.false_or, Bool.and_true, Bool.and_false, ne_eq, not_false_eq_true, not_true_eq_false, reduceCtorEq, eRng, h2, h3]
theorem law_gen {rsm rfb rsp rlb : List O → Rs O} (F : Fs rsm rfb rsp rlb) (ns : List Int) : fnRun bs_law 8 (b_law r_tp r_take r_edits r_sd r_ls rsm rfb rsp rlb) [.scr ns] = .ok (.sh (.bool true)) [none] := by
  refine run_ex ?_
  obtain ⟨T, e1⟩ := tp_ok ns
  obtain ⟨r, T1, e2, r0, r1⟩ := take_ex T (m := 6) (by decide) (by decide)
  obtain ⟨ws, T2, e3, hlen, hw⟩ := w_comp (some (.scr ns)) (1 + r).toNat T1
  have hws : ws.length ≤ 6 := by omega
  have hw0 : 0 < ws.length := by omega
  have hgt : ∀ w ∈ ws, Gt w.2 := fun w hm => ⟨by have := (hw w hm).1; omega, (hw w hm).2⟩
  have e4 := sd_ok ws hgt (by omega)
  have lg := log_gs ws 0 17 hw
  have ll : (logOf 0 17 ws).length ≤ 6 := by rw [log_len]; exact hws
  have ll0 : 0 < (logOf 0 17 ws).length := by rw [log_len]; exact hw0
  have lf := fbk_log ws 0 17
  have s1 : sSet 1 (eCallU r_tp (aBor 0 (aNil))) [some (.scr ns), none, none, none, none, none, none, none] = .ok .nx [some (.scr ns), some (tapeO T), none, none, none, none, none, none] := by simp only [sSeq, sIf, eAnd, eOr, eNot, eB, bnd, eBin, eUn, eSub, eC, VH.ret, lift, eVar, eSh, eFz, sSet, sRet, sPut, sAsg, tgN, tgT, tgSeq, eAll, eCons, eNil, eAndV, eOrV, eNotV, eOfB, eIf, eIsN, eNotN, eNN, eNNo, eTru, sDo, sApp, sExt, sNext, oLst, oAdd, oIf, oList, eMov, eSl, ePart, eCallU, aNil, aVal, aBor, takeA, putA, List.getElem?_cons_zero, List.getElem?_cons_succ, List.set_cons_zero, List.set_cons_succ, Nat.reduceSub, Nat.reduceAdd, Nat.reduceLT, Nat.reduceLeDiff, Option.bind, Option.map, VH.keyOf, O.fzb, fz, blD, eM1, List.replicate, if_true, if_false, Bool.false_eq_true, decide_true, decide_false, beq_self_eq_true, Bool.not_true, Bool.not_false, and_self, and_true, true_and, Bool.or_true, Bool.true_or, Bool.or_false, Bool.false_or, Bool.and_true, Bool.and_false, ne_eq, not_false_eq_true, not_true_eq_false, reduceCtorEq, e1, List.length_cons, List.length_nil]
  have rg : rng1D (.int (1 + r)) = some (rngL 0 (1 + r).toNat) := by
    have h0 : 0 ≤ 1 + r := by omega
    have h1 : 1 + r ≤ 1000000 := by omega
    simp only [rng1D, if_pos (rng_ok h0 h1)]
  generalize (1 + r).toNat = n at e3 rg hlen
  have s2 : sSet 2 (oComp (eRng (eBin addD (eC (.int 1)) (eFz (eCallU r_take (aBor 1 (aVal (eC (.int 6)) (aNil))))))) (tgN 3) [3] (VH.ret true) (eAll tupD (eCons (eFz (eCallU r_take (aBor 1 (aVal (eC (.int 4)) (aNil))))) (eCons (eFz (eCallU r_edits (aBor 1 (aNil)))) (eNil))))) [some (.scr ns), some (tapeO T), none, none, none, none, none, none] = .ok .nx [some (.scr ns), some (tapeO T2), some (.lst (ws.map wD)), none, none, none, none, none] := by
    have s20 : eRng (eBin addD (eC (.int 1)) (eFz (eCallU r_take (aBor 1 (aVal (eC (.int 6)) (aNil)))))) [some (.scr ns), some (tapeO T), none, none, none, none, none, none] = .ok (rngL 0 n) [some (.scr ns), some (tapeO T1), none, none, none, none, none, none] := by simp only [sSeq, sIf, eAnd, eOr, eNot, eB, bnd, eBin, eUn, eSub, eC, VH.ret, lift, eVar, eSh, eFz, sSet, sRet, sPut, sAsg, tgN, tgT, tgSeq, eAll, eCons, eNil, eAndV, eOrV, eNotV, eOfB, eIf, eIsN, eNotN, eNN, eNNo, eTru, sDo, sApp, sExt, sNext, oLst, oAdd, oIf, oList, eMov, eSl, ePart, eCallU, aNil, aVal, aBor, takeA, putA, List.getElem?_cons_zero, List.getElem?_cons_succ, List.set_cons_zero, List.set_cons_succ, Nat.reduceSub, Nat.reduceAdd, Nat.reduceLT, Nat.reduceLeDiff, Option.bind, Option.map, VH.keyOf, O.fzb, fz, blD, eM1, List.replicate, if_true, if_false, Bool.false_eq_true, decide_true, decide_false, beq_self_eq_true, Bool.not_true, Bool.not_false, and_self, and_true, true_and, Bool.or_true, Bool.true_or, Bool.or_false, Bool.false_or, Bool.and_true, Bool.and_false, ne_eq, not_false_eq_true, not_true_eq_false, reduceCtorEq, eRng, e2, a_ii, rg]
    unfold sSet oComp
    simp only [bnd, s20, dropE, List.set_cons_succ, List.set_cons_zero, e3, List.length_cons, List.length_nil, Nat.reduceAdd, Nat.reduceLT, if_true]
  generalize hL : (.sh (.tuple ((logOf 0 17 ws).map eD)) : O) = L at e4
  have s3 : sSet 4 (eSh (eFz (eCallU r_sd (aVal (eVar 2) (aNil))))) [some (.scr ns), some (tapeO T2), some (.lst (ws.map wD)), none, none, none, none, none] = .ok .nx [some (.scr ns), some (tapeO T2), some (.sh (.list (ws.map wD))), none, some L, none, none, none] := by
    subst hL
    simp only [sSeq, sIf, eAnd, eOr, eNot, eB, bnd, eBin, eUn, eSub, eC, VH.ret, lift, eVar, eSh, eFz, sSet, sRet, sPut, sAsg, tgN, tgT, tgSeq, eAll, eCons, eNil, eAndV, eOrV, eNotV, eOfB, eIf, eIsN, eNotN, eNN, eNNo, eTru, sDo, sApp, sExt, sNext, oLst, oAdd, oIf, oList, eMov, eSl, ePart, eCallU, aNil, aVal, aBor, takeA, putA, List.getElem?_cons_zero, List.getElem?_cons_succ, List.set_cons_zero, List.set_cons_succ, Nat.reduceSub, Nat.reduceAdd, Nat.reduceLT, Nat.reduceLeDiff, Option.bind, Option.map, VH.keyOf, O.fzb, fz, blD, eM1, List.replicate, if_true, if_false, Bool.false_eq_true, decide_true, decide_false, beq_self_eq_true, Bool.not_true, Bool.not_false, and_self, and_true, true_and, Bool.or_true, Bool.true_or, Bool.or_false, Bool.false_or, Bool.and_true, Bool.and_false, ne_eq, not_false_eq_true, not_true_eq_false, reduceCtorEq, e4, List.length_cons, List.length_nil]
  have s4 : sSet 5 (oLst (eNil)) [some (.scr ns), some (tapeO T2), some (.sh (.list (ws.map wD))), none, some L, none, none, none] = .ok .nx [some (.scr ns), some (tapeO T2), some (.sh (.list (ws.map wD))), none, some L, some (.lst []), none, none] := by simp only [sSeq, sIf, eAnd, eOr, eNot, eB, bnd, eBin, eUn, eSub, eC, VH.ret, lift, eVar, eSh, eFz, sSet, sRet, sPut, sAsg, tgN, tgT, tgSeq, eAll, eCons, eNil, eAndV, eOrV, eNotV, eOfB, eIf, eIsN, eNotN, eNN, eNNo, eTru, sDo, sApp, sExt, sNext, oLst, oAdd, oIf, oList, eMov, eSl, ePart, eCallU, aNil, aVal, aBor, takeA, putA, List.getElem?_cons_zero, List.getElem?_cons_succ, List.set_cons_zero, List.set_cons_succ, Nat.reduceSub, Nat.reduceAdd, Nat.reduceLT, Nat.reduceLeDiff, Option.bind, Option.map, VH.keyOf, O.fzb, fz, blD, eM1, List.replicate, if_true, if_false, Bool.false_eq_true, decide_true, decide_false, beq_self_eq_true, Bool.not_true, Bool.not_false, and_self, and_true, true_and, Bool.or_true, Bool.true_or, Bool.or_false, Bool.false_or, Bool.and_true, Bool.and_false, ne_eq, not_false_eq_true, not_true_eq_false, reduceCtorEq, List.length_cons, List.length_nil]
  have s5 : sSet 6 (eSh (eC (.int 17))) [some (.scr ns), some (tapeO T2), some (.sh (.list (ws.map wD))), none, some L, some (.lst []), none, none] = .ok .nx [some (.scr ns), some (tapeO T2), some (.sh (.list (ws.map wD))), none, some L, some (.lst []), some (.sh (.int 17)), none] := by simp only [sSeq, sIf, eAnd, eOr, eNot, eB, bnd, eBin, eUn, eSub, eC, VH.ret, lift, eVar, eSh, eFz, sSet, sRet, sPut, sAsg, tgN, tgT, tgSeq, eAll, eCons, eNil, eAndV, eOrV, eNotV, eOfB, eIf, eIsN, eNotN, eNN, eNNo, eTru, sDo, sApp, sExt, sNext, oLst, oAdd, oIf, oList, eMov, eSl, ePart, eCallU, aNil, aVal, aBor, takeA, putA, List.getElem?_cons_zero, List.getElem?_cons_succ, List.set_cons_zero, List.set_cons_succ, Nat.reduceSub, Nat.reduceAdd, Nat.reduceLT, Nat.reduceLeDiff, Option.bind, Option.map, VH.keyOf, O.fzb, fz, blD, eM1, List.replicate, if_true, if_false, Bool.false_eq_true, decide_true, decide_false, beq_self_eq_true, Bool.not_true, Bool.not_false, and_self, and_true, true_and, Bool.or_true, Bool.true_or, Bool.or_false, Bool.false_or, Bool.and_true, Bool.and_false, ne_eq, not_false_eq_true, not_true_eq_false, reduceCtorEq, List.length_cons, List.length_nil]
  have wl : VH.lenD [.list (ws.map wD)] = some (.int ws.length) := by
    show some (PyData.int (ws.map wD).length) = _
    rw [List.length_map]
  have wr := tb_rng (k := ws.length) (by omega)
  rw [Int.toNat_natCast] at wr
  obtain ⟨b', k', e6⟩ := du_loop0 (some (.scr ns)) (some (tapeO T2)) (some L) none ws none hw (by omega)
  have s60 : eRng (eAll VH.lenD (eCons (eVar 2) (eNil))) [some (.scr ns), some (tapeO T2), some (.sh (.list (ws.map wD))), none, some L, some (.lst []), some (.sh (.int 17)), none] = .ok (rngL 0 ws.length) [some (.scr ns), some (tapeO T2), some (.sh (.list (ws.map wD))), none, some L, some (.lst []), some (.sh (.int 17)), none] := e_rng_len2 wl wr _
  have s6 := for_ok s60 e6
  subst hL
  have s7 := la_ok F (.scr ns) (tapeO T2) (.sh (.list (ws.map wD))) k' _ (logOf 0 17 ws) rfl ll lg lf (some (.sh (.int b'))) none
  have s80 : eRng (eC (.int 4)) [some (.scr ns), some (tapeO T2), some (.sh (.list (ws.map wD))), k', some (.sh (.tuple ((logOf 0 17 ws).map eD))), some (.sh (.list ((logOf 0 17 ws).map eD))), some (.sh (.int b')), none] = .ok (rngL 0 4) [some (.scr ns), some (tapeO T2), some (.sh (.list (ws.map wD))), k', some (.sh (.tuple ((logOf 0 17 ws).map eD))), some (.sh (.list ((logOf 0 17 ws).map eD))), some (.sh (.int b')), none] := by
    have q : rng1D (.int 4) = some (rngL 0 4) := tb_rng (k := 4) (by decide)
    simp only [sSeq, sIf, eAnd, eOr, eNot, eB, bnd, eBin, eUn, eSub, eC, VH.ret, lift, eVar, eSh, eFz, sSet, sRet, sPut, sAsg, tgN, tgT, tgSeq, eAll, eCons, eNil, eAndV, eOrV, eNotV, eOfB, eIf, eIsN, eNotN, eNN, eNNo, eTru, sDo, sApp, sExt, sNext, oLst, oAdd, oIf, oList, eMov, eSl, ePart, eCallU, aNil, aVal, aBor, takeA, putA, List.getElem?_cons_zero, List.getElem?_cons_succ, List.set_cons_zero, List.set_cons_succ, Nat.reduceSub, Nat.reduceAdd, Nat.reduceLT, Nat.reduceLeDiff, Option.bind, Option.map, VH.keyOf, O.fzb, fz, blD, eM1, List.replicate, if_true, if_false, Bool.false_eq_true, decide_true, decide_false, beq_self_eq_true, Bool.not_true, Bool.not_false, and_self, and_true, true_and, Bool.or_true, Bool.true_or, Bool.or_false, Bool.false_or, Bool.and_true, Bool.and_false, ne_eq, not_false_eq_true, not_true_eq_false, reduceCtorEq, eRng, q]
  obtain ⟨env', e8, T3, u3, u7, rfl⟩ := loop_inv (n := 4) (tg := tgN 3) (body := (sSeq (sSet 7 (eSh (eFz (eCallU rsp (aBor 1 (aVal (eVar 4) (aNil))))))) (sIf (eNot (eB (eFz (eCallU (rsm) (aVal (eFz (eCallU rfb (aVal (eVar 7) (aNil)))) (aVal (eFz (eCallU rlb (aVal (eVar 7) (aNil)))) (aNil))))))) (sRet (eSh (eC (.bool false)))) (sNext))))
    (I := fun _ env => ∃ (T : Tape) (u3 u7 : Option O), env = [some (.scr ns), some (tapeO T), some (.sh (.list (ws.map wD))), u3, some (.sh (.tuple ((logOf 0 17 ws).map eD))), some (.sh (.list ((logOf 0 17 ws).map eD))), some (.sh (.int b')), u7]) (fun i d env hi ⟨T, u3, u7, he⟩ => by
      subst he
      obtain ⟨T', u', e⟩ := sp_turn F (some (.scr ns)) (some (.sh (.list (ws.map wD)))) (some (.sh (.list (ws.map wD)))) (some (.sh (.list ((logOf 0 17 ws).map eD)))) (some (.sh (.int b'))) u7 (some (.sh d)) T (logOf 0 17 ws) ll0 ll lg
      exact ⟨_, _, rfl, e, T', _, _, rfl⟩) (rngL 0 4) 0 _ (by decide) ⟨T2, k', none, rfl⟩
  have s9 : sRet (eSh (eC (.bool true))) [some (.scr ns), some (tapeO T3), some (.sh (.list (ws.map wD))), u3, some (.sh (.tuple ((logOf 0 17 ws).map eD))), some (.sh (.list ((logOf 0 17 ws).map eD))), some (.sh (.int b')), u7] = .ok (.ret (.sh (.bool true))) [some (.scr ns), some (tapeO T3), some (.sh (.list (ws.map wD))), u3, some (.sh (.tuple ((logOf 0 17 ws).map eD))), some (.sh (.list ((logOf 0 17 ws).map eD))), some (.sh (.int b')), u7] := by simp only [sSeq, sIf, eAnd, eOr, eNot, eB, bnd, eBin, eUn, eSub, eC, VH.ret, lift, eVar, eSh, eFz, sSet, sRet, sPut, sAsg, tgN, tgT, tgSeq, eAll, eCons, eNil, eAndV, eOrV, eNotV, eOfB, eIf, eIsN, eNotN, eNN, eNNo, eTru, sDo, sApp, sExt, sNext, oLst, oAdd, oIf, oList, eMov, eSl, ePart, eCallU, aNil, aVal, aBor, takeA, putA, List.getElem?_cons_zero, List.getElem?_cons_succ, List.set_cons_zero, List.set_cons_succ, Nat.reduceSub, Nat.reduceAdd, Nat.reduceLT, Nat.reduceLeDiff, Option.bind, Option.map, VH.keyOf, O.fzb, fz, blD, eM1, List.replicate, if_true, if_false, Bool.false_eq_true, decide_true, decide_false, beq_self_eq_true, Bool.not_true, Bool.not_false, and_self, and_true, true_and, Bool.or_true, Bool.true_or, Bool.or_false, Bool.false_or, Bool.and_true, Bool.and_false, ne_eq, not_false_eq_true, not_true_eq_false, reduceCtorEq]
  exact ⟨_, (seq_ok s1).trans ((seq_ok s2).trans ((seq_ok s3).trans ((seq_ok s4).trans ((seq_ok s5).trans ((seq_ok s6).trans ((seq_ok s7).trans ((seq_ok (for_ok s80 e8)).trans s9)))))))⟩
def r_law : List O → Rs O := fnRun bs_law 8 (b_law r_tp r_take r_edits r_sd r_ls (r_same 6) r_fb r_sp r_lb)
theorem fs : Fs (r_same 6) r_fb r_sp r_lb := ⟨fun d h => same_ok 6 d h, fb_ok, lb_ok, sp_ok⟩
theorem law_ok (ns : List Int) : r_law [.scr ns] = .ok (.sh (.bool true)) [none] := law_gen fs ns
end K86
set_option Elab.async false
set_option linter.all false
set_option maxRecDepth 100000
set_option maxHeartbeats 4000000
namespace K86
open PySem PySem.Spec PyProof.Rows L2 VH
def spLaw (K : PySem.W.Frag) : Sp := fun vs H Q _ => ∃ (a : Addr) (ns : List Int), vs = [.ref a] ∧ SqL K H a (ns.map V.int) ∧ ∀ H', Q (.bl true) H'
section
variable {P : Program} {w : World} {K : PySem.W.Frag} {mg : Str → Option Value} {base : Heap}
theorem ok_all (T : Tx K mg)
    {a_code_of : Addr} {fd_code_of : FuncData} (F_code_of : Fun K "code_of" "code_of" s_code_of a_code_of fd_code_of) (m_code_of : mg "code_of" = some (.ref a_code_of))
    {a_to_bytes_of : Addr} {fd_to_bytes_of : FuncData} (F_to_bytes_of : Fun K "to_bytes_of" "to_bytes_of" s_to_bytes_of a_to_bytes_of fd_to_bytes_of) (m_to_bytes_of : mg "to_bytes_of" = some (.ref a_to_bytes_of))
    {a_pack_string : Addr} {fd_pack_string : FuncData} (F_pack_string : Fun K "pack_string" "pack_string" s_pack_string a_pack_string fd_pack_string) (m_pack_string : mg "pack_string" = some (.ref a_pack_string))
    {a_pack_many : Addr} {fd_pack_many : FuncData} (F_pack_many : Fun K "pack_many" "pack_many" s_pack_many a_pack_many fd_pack_many) (m_pack_many : mg "pack_many" = some (.ref a_pack_many))
    {a_pack : Addr} {fd_pack : FuncData} (F_pack : Fun K "pack" "pack" s_pack a_pack fd_pack) (m_pack : mg "pack" = some (.ref a_pack))
    {a_seal_of : Addr} {fd_seal_of : FuncData} (F_seal_of : Fun K "seal_of" "seal_of" s_seal_of a_seal_of fd_seal_of) (m_seal_of : mg "seal_of" = some (.ref a_seal_of))
    {a_sealed : Addr} {fd_sealed : FuncData} (F_sealed : Fun K "sealed" "sealed" s_sealed a_sealed fd_sealed) (m_sealed : mg "sealed" = some (.ref a_sealed))
    {a_first_break : Addr} {fd_first_break : FuncData} (F_first_break : Fun K "first_break" "first_break" s_first_break a_first_break fd_first_break) (m_first_break : mg "first_break" = some (.ref a_first_break))
    {a__law_tape : Addr} {fd__law_tape : FuncData} (F__law_tape : Fun K "_law_tape" "_law_tape" s__law_tape a__law_tape fd__law_tape) (m__law_tape : mg "_law_tape" = some (.ref a__law_tape))
    {a__law_take : Addr} {fd__law_take : FuncData} (F__law_take : Fun K "_law_take" "_law_take" s__law_take a__law_take fd__law_take) (m__law_take : mg "_law_take" = some (.ref a__law_take))
    {a__law_is_integer : Addr} {fd__law_is_integer : FuncData} (F__law_is_integer : Fun K "_law_is_integer" "_law_is_integer" s__law_is_integer a__law_is_integer fd__law_is_integer) (m__law_is_integer : mg "_law_is_integer" = some (.ref a__law_is_integer))
    {a__law_same_items : Addr} {fd__law_same_items : FuncData} (F__law_same_items : Fun K "_law_same_items" "_law_same_items" s__law_same_items a__law_same_items fd__law_same_items) (m__law_same_items : mg "_law_same_items" = some (.ref a__law_same_items))
    {a__law_same : Addr} {fd__law_same : FuncData} (F__law_same : Fun K "_law_same" "_law_same" s__law_same a__law_same fd__law_same) (m__law_same : mg "_law_same" = some (.ref a__law_same))
    {a__law_char : Addr} {fd__law_char : FuncData} (F__law_char : Fun K "_law_char" "_law_char" s__law_char a__law_char fd__law_char) (m__law_char : mg "_law_char" = some (.ref a__law_char))
    {a__law_text : Addr} {fd__law_text : FuncData} (F__law_text : Fun K "_law_text" "_law_text" s__law_text a__law_text fd__law_text) (m__law_text : mg "_law_text" = some (.ref a__law_text))
    {a__law_integer : Addr} {fd__law_integer : FuncData} (F__law_integer : Fun K "_law_integer" "_law_integer" s__law_integer a__law_integer fd__law_integer) (m__law_integer : mg "_law_integer" = some (.ref a__law_integer))
    {a__law_value : Addr} {fd__law_value : FuncData} (F__law_value : Fun K "_law_value" "_law_value" s__law_value a__law_value fd__law_value) (m__law_value : mg "_law_value" = some (.ref a__law_value))
    {a__law_edits : Addr} {fd__law_edits : FuncData} (F__law_edits : Fun K "_law_edits" "_law_edits" s__law_edits a__law_edits fd__law_edits) (m__law_edits : mg "_law_edits" = some (.ref a__law_edits))
    {a__law_seal : Addr} {fd__law_seal : FuncData} (F__law_seal : Fun K "_law_seal" "_law_seal" s__law_seal a__law_seal fd__law_seal) (m__law_seal : mg "_law_seal" = some (.ref a__law_seal))
    {a__law_break : Addr} {fd__law_break : FuncData} (F__law_break : Fun K "_law_break" "_law_break" s__law_break a__law_break fd__law_break) (m__law_break : mg "_law_break" = some (.ref a__law_break))
    {a__law_spoilt : Addr} {fd__law_spoilt : FuncData} (F__law_spoilt : Fun K "_law_spoilt" "_law_spoilt" s__law_spoilt a__law_spoilt fd__law_spoilt) (m__law_spoilt : mg "_law_spoilt" = some (.ref a__law_spoilt))
    {a_law : Addr} {fd_law : FuncData} (F_law : Fun K "law" "law" s_law a_law fd_law) (m_law : mg "law" = some (.ref a_law)) : FnOk P w K mg base (L2.CX P w) 14 a_law fd_law ["script"] (spLaw K) := by
  have G_code_of : FnG P w K mg base 1 "code_of" bs_code_of (r_co) := g_code_of (k := 0) T F_code_of m_code_of (fun _ _ _ => rfl)
  have G_to_bytes_of : FnG P w K mg base 1 "to_bytes_of" bs_to_bytes_of (r_tb) := g_to_bytes_of (k := 0) T F_to_bytes_of m_to_bytes_of (fun _ _ _ => rfl)
  have G_pack_string : FnG P w K mg base 2 "pack_string" bs_pack_string (r_ps) := g_pack_string (k := 1) T G_to_bytes_of (by decide) G_code_of (by decide) F_pack_string m_pack_string (fun _ _ _ => rfl)
  have G_pack_many : FnG P w K mg base 2 "pack_many" bs_pack_many (r_pm) := g_pack_many (k := 1) T G_to_bytes_of (by decide) F_pack_many m_pack_many (fun _ _ _ => rfl)
  have B_pack : ∀ n, FnG P w K mg base (n + 2) "pack" bs_pack (r_pack n) := by
    intro n
    induction n with
    | zero => exact g_bad (k := 1) F_pack sc_pack rfl m_pack (F_pack.binds fun _ _ _ _ _ _ us hl => match us, hl with | [_], _ => rfl)
    | succ n ih => exact g_pack (k := n + 2) T G_to_bytes_of (by omega) G_pack_string (by omega) G_pack_many (by omega) ih (by omega) F_pack m_pack (fun _ _ _ => rfl)
  have G_pack : FnG P w K mg base 7 "pack" bs_pack (r_pack 5) := B_pack 5
  have G_seal_of : FnG P w K mg base 8 "seal_of" bs_seal_of (r_so) := g_seal_of (k := 7) T G_pack (by decide) F_seal_of m_seal_of (fun _ _ _ => rfl)
  have G_sealed : FnG P w K mg base 9 "sealed" bs_sealed (r_sd) := g_sealed (k := 8) T G_seal_of (by decide) F_sealed m_sealed (fun _ _ _ => rfl)
  have G_first_break : FnG P w K mg base 9 "first_break" bs_first_break (r_fb) := g_first_break (k := 8) T G_seal_of (by decide) F_first_break m_first_break (fun _ _ _ => rfl)
  have G__law_tape : FnG P w K mg base 1 "_law_tape" bs__law_tape (r_tp) := g__law_tape (k := 0) T F__law_tape m__law_tape (fun _ _ _ => rfl)
  have G__law_take : FnG P w K mg base 1 "_law_take" bs__law_take (r_take) := g__law_take (k := 0) T F__law_take m__law_take (fun _ _ _ => rfl)
  have G__law_is_integer : FnG P w K mg base 1 "_law_is_integer" bs__law_is_integer (r_li) := g__law_is_integer (k := 0) T F__law_is_integer m__law_is_integer (fun _ _ _ => rfl)

  have B__law_same : ∀ n, FnG P w K mg base (2 * n + 1) "_law_same" bs__law_same (r_same n) := by
    intro n
    induction n with
    | zero => exact g_bad (k := 0) F__law_same sc__law_same rfl m__law_same (F__law_same.binds fun _ _ _ _ _ _ us hl => match us, hl with | [_, _], _ => rfl)
    | succ n ih =>
      have G_si : FnG P w K mg base (2 * n + 2) "_law_same_items" bs__law_same_items (r_si n) := g__law_same_items (k := 2 * n + 1) T ih (by omega) F__law_same_items m__law_same_items (fun _ _ _ => rfl)
      exact g__law_same (k := 2 * n + 2) T G__law_is_integer (by omega) G_si (by omega) F__law_same m__law_same (fun _ _ _ => rfl)
  have G__law_same : FnG P w K mg base 13 "_law_same" bs__law_same (r_same 6) := B__law_same 6
  have G__law_char : FnG P w K mg base 2 "_law_char" bs__law_char (r_char) := g__law_char (k := 1) T G__law_take (by decide) F__law_char m__law_char (fun _ _ _ => rfl)
  have G__law_text : FnG P w K mg base 3 "_law_text" bs__law_text (r_text) := g__law_text (k := 2) T G__law_take (by decide) G__law_char (by decide) F__law_text m__law_text (fun _ _ _ => rfl)
  have G__law_integer : FnG P w K mg base 2 "_law_integer" bs__law_integer (r_integer) := g__law_integer (k := 1) T G__law_take (by decide) F__law_integer m__law_integer (fun _ _ _ => rfl)
  have G__law_value : FnG P w K mg base 4 "_law_value" bs__law_value (r_value) := g__law_value (k := 3) T G__law_take (by decide) G__law_integer (by decide) G__law_text (by decide) F__law_value m__law_value (fun _ _ _ => rfl)
  have G__law_edits : FnG P w K mg base 5 "_law_edits" bs__law_edits (r_edits) := g__law_edits (k := 4) T G__law_take (by decide) G__law_value (by decide) F__law_edits m__law_edits (fun _ _ _ => rfl)
  have G__law_seal : FnG P w K mg base 8 "_law_seal" bs__law_seal (r_ls) := g__law_seal (k := 7) T G_pack (by decide) F__law_seal m__law_seal (fun _ _ _ => rfl)
  have G__law_break : FnG P w K mg base 9 "_law_break" bs__law_break (r_lb) := g__law_break (k := 8) T G__law_seal (by decide) F__law_break m__law_break (fun _ _ _ => by rw [r_lb_eq])
  have G__law_spoilt : FnG P w K mg base 9 "_law_spoilt" bs__law_spoilt (r_sp) := g__law_spoilt (k := 8) T G__law_take (by decide) G__law_seal (by decide) F__law_spoilt m__law_spoilt (fun _ _ _ => rfl)
  have O : FnOk P w K mg base (L2.CX P w) 14 a_law fd_law p_law (spO ⟨K, mg⟩ bs_law r_law) := fnD F_law sc_law rfl rfl (fun _ _ _ => rfl) (fun cdv A outer s H vs E hr => d_law (k := 13) T G__law_tape (by decide) G__law_take (by decide) G__law_edits (by decide) G_sealed (by decide) G__law_seal (by decide) G__law_same (by decide) G_first_break (by decide) G__law_spoilt (by decide) G__law_break (by decide) hr)
  refine O.imp fun vs H Q E h => ?_
  obtain ⟨a, ns, rfl, hS, hQ⟩ := h
  exact law_spG hS (law_ok ns) hQ
end
theorem all_mk {l : PySem.W.OpenLaw} {w : World} {K : PySem.W.Frag} {h : Heap} {mg : Str → Option Value} {fa : Addr} (X : K.In h) (G : h.Ns mainGlobals mg) (hfa : mg "law" = some (.ref fa))
    {f_code_of : Addr} {od_code_of an_code_of : Option Addr} {sl_code_of : Array (Option Value)} {oc_code_of kV_code_of dc_code_of pm_code_of cd_code_of ct_code_of : Value} (a_code_of : PySem.W.nsIn K mainGlobals "code_of" = some (some (.ref f_code_of))) (l_code_of : K.lookup f_code_of = some ⟨oc_code_of, od_code_of, .func (PySem.W.fnOf "code_of" "code_of" (defArgs s_code_of) (defBody s_code_of) (defScope s_code_of) .none kV_code_of dc_code_of pm_code_of an_code_of cd_code_of ct_code_of), sl_code_of⟩) (c_code_of : PySem.W.codeIn K cd_code_of "code_of" = true) (k_code_of : PySem.W.keepIn K (.ref f_code_of) = true)
    {f_to_bytes_of : Addr} {od_to_bytes_of an_to_bytes_of : Option Addr} {sl_to_bytes_of : Array (Option Value)} {oc_to_bytes_of kV_to_bytes_of dc_to_bytes_of pm_to_bytes_of cd_to_bytes_of ct_to_bytes_of : Value} (a_to_bytes_of : PySem.W.nsIn K mainGlobals "to_bytes_of" = some (some (.ref f_to_bytes_of))) (l_to_bytes_of : K.lookup f_to_bytes_of = some ⟨oc_to_bytes_of, od_to_bytes_of, .func (PySem.W.fnOf "to_bytes_of" "to_bytes_of" (defArgs s_to_bytes_of) (defBody s_to_bytes_of) (defScope s_to_bytes_of) .none kV_to_bytes_of dc_to_bytes_of pm_to_bytes_of an_to_bytes_of cd_to_bytes_of ct_to_bytes_of), sl_to_bytes_of⟩) (c_to_bytes_of : PySem.W.codeIn K cd_to_bytes_of "to_bytes_of" = true) (k_to_bytes_of : PySem.W.keepIn K (.ref f_to_bytes_of) = true)
    {f_pack_string : Addr} {od_pack_string an_pack_string : Option Addr} {sl_pack_string : Array (Option Value)} {oc_pack_string kV_pack_string dc_pack_string pm_pack_string cd_pack_string ct_pack_string : Value} (a_pack_string : PySem.W.nsIn K mainGlobals "pack_string" = some (some (.ref f_pack_string))) (l_pack_string : K.lookup f_pack_string = some ⟨oc_pack_string, od_pack_string, .func (PySem.W.fnOf "pack_string" "pack_string" (defArgs s_pack_string) (defBody s_pack_string) (defScope s_pack_string) .none kV_pack_string dc_pack_string pm_pack_string an_pack_string cd_pack_string ct_pack_string), sl_pack_string⟩) (c_pack_string : PySem.W.codeIn K cd_pack_string "pack_string" = true) (k_pack_string : PySem.W.keepIn K (.ref f_pack_string) = true)
    {f_pack_many : Addr} {od_pack_many an_pack_many : Option Addr} {sl_pack_many : Array (Option Value)} {oc_pack_many kV_pack_many dc_pack_many pm_pack_many cd_pack_many ct_pack_many : Value} (a_pack_many : PySem.W.nsIn K mainGlobals "pack_many" = some (some (.ref f_pack_many))) (l_pack_many : K.lookup f_pack_many = some ⟨oc_pack_many, od_pack_many, .func (PySem.W.fnOf "pack_many" "pack_many" (defArgs s_pack_many) (defBody s_pack_many) (defScope s_pack_many) .none kV_pack_many dc_pack_many pm_pack_many an_pack_many cd_pack_many ct_pack_many), sl_pack_many⟩) (c_pack_many : PySem.W.codeIn K cd_pack_many "pack_many" = true) (k_pack_many : PySem.W.keepIn K (.ref f_pack_many) = true)
    {f_pack : Addr} {od_pack an_pack : Option Addr} {sl_pack : Array (Option Value)} {oc_pack kV_pack dc_pack pm_pack cd_pack ct_pack : Value} (a_pack : PySem.W.nsIn K mainGlobals "pack" = some (some (.ref f_pack))) (l_pack : K.lookup f_pack = some ⟨oc_pack, od_pack, .func (PySem.W.fnOf "pack" "pack" (defArgs s_pack) (defBody s_pack) (defScope s_pack) .none kV_pack dc_pack pm_pack an_pack cd_pack ct_pack), sl_pack⟩) (c_pack : PySem.W.codeIn K cd_pack "pack" = true) (k_pack : PySem.W.keepIn K (.ref f_pack) = true)
    {f_seal_of : Addr} {od_seal_of an_seal_of : Option Addr} {sl_seal_of : Array (Option Value)} {oc_seal_of kV_seal_of dc_seal_of pm_seal_of cd_seal_of ct_seal_of : Value} (a_seal_of : PySem.W.nsIn K mainGlobals "seal_of" = some (some (.ref f_seal_of))) (l_seal_of : K.lookup f_seal_of = some ⟨oc_seal_of, od_seal_of, .func (PySem.W.fnOf "seal_of" "seal_of" (defArgs s_seal_of) (defBody s_seal_of) (defScope s_seal_of) .none kV_seal_of dc_seal_of pm_seal_of an_seal_of cd_seal_of ct_seal_of), sl_seal_of⟩) (c_seal_of : PySem.W.codeIn K cd_seal_of "seal_of" = true) (k_seal_of : PySem.W.keepIn K (.ref f_seal_of) = true)
    {f_sealed : Addr} {od_sealed an_sealed : Option Addr} {sl_sealed : Array (Option Value)} {oc_sealed kV_sealed dc_sealed pm_sealed cd_sealed ct_sealed : Value} (a_sealed : PySem.W.nsIn K mainGlobals "sealed" = some (some (.ref f_sealed))) (l_sealed : K.lookup f_sealed = some ⟨oc_sealed, od_sealed, .func (PySem.W.fnOf "sealed" "sealed" (defArgs s_sealed) (defBody s_sealed) (defScope s_sealed) .none kV_sealed dc_sealed pm_sealed an_sealed cd_sealed ct_sealed), sl_sealed⟩) (c_sealed : PySem.W.codeIn K cd_sealed "sealed" = true) (k_sealed : PySem.W.keepIn K (.ref f_sealed) = true)
    {f_first_break : Addr} {od_first_break an_first_break : Option Addr} {sl_first_break : Array (Option Value)} {oc_first_break kV_first_break dc_first_break pm_first_break cd_first_break ct_first_break : Value} (a_first_break : PySem.W.nsIn K mainGlobals "first_break" = some (some (.ref f_first_break))) (l_first_break : K.lookup f_first_break = some ⟨oc_first_break, od_first_break, .func (PySem.W.fnOf "first_break" "first_break" (defArgs s_first_break) (defBody s_first_break) (defScope s_first_break) .none kV_first_break dc_first_break pm_first_break an_first_break cd_first_break ct_first_break), sl_first_break⟩) (c_first_break : PySem.W.codeIn K cd_first_break "first_break" = true) (k_first_break : PySem.W.keepIn K (.ref f_first_break) = true)
    {f__law_tape : Addr} {od__law_tape an__law_tape : Option Addr} {sl__law_tape : Array (Option Value)} {oc__law_tape kV__law_tape dc__law_tape pm__law_tape cd__law_tape ct__law_tape : Value} (a__law_tape : PySem.W.nsIn K mainGlobals "_law_tape" = some (some (.ref f__law_tape))) (l__law_tape : K.lookup f__law_tape = some ⟨oc__law_tape, od__law_tape, .func (PySem.W.fnOf "_law_tape" "_law_tape" (defArgs s__law_tape) (defBody s__law_tape) (defScope s__law_tape) .none kV__law_tape dc__law_tape pm__law_tape an__law_tape cd__law_tape ct__law_tape), sl__law_tape⟩) (c__law_tape : PySem.W.codeIn K cd__law_tape "_law_tape" = true) (k__law_tape : PySem.W.keepIn K (.ref f__law_tape) = true)
    {f__law_take : Addr} {od__law_take an__law_take : Option Addr} {sl__law_take : Array (Option Value)} {oc__law_take kV__law_take dc__law_take pm__law_take cd__law_take ct__law_take : Value} (a__law_take : PySem.W.nsIn K mainGlobals "_law_take" = some (some (.ref f__law_take))) (l__law_take : K.lookup f__law_take = some ⟨oc__law_take, od__law_take, .func (PySem.W.fnOf "_law_take" "_law_take" (defArgs s__law_take) (defBody s__law_take) (defScope s__law_take) .none kV__law_take dc__law_take pm__law_take an__law_take cd__law_take ct__law_take), sl__law_take⟩) (c__law_take : PySem.W.codeIn K cd__law_take "_law_take" = true) (k__law_take : PySem.W.keepIn K (.ref f__law_take) = true)
    {f__law_is_integer : Addr} {od__law_is_integer an__law_is_integer : Option Addr} {sl__law_is_integer : Array (Option Value)} {oc__law_is_integer kV__law_is_integer dc__law_is_integer pm__law_is_integer cd__law_is_integer ct__law_is_integer : Value} (a__law_is_integer : PySem.W.nsIn K mainGlobals "_law_is_integer" = some (some (.ref f__law_is_integer))) (l__law_is_integer : K.lookup f__law_is_integer = some ⟨oc__law_is_integer, od__law_is_integer, .func (PySem.W.fnOf "_law_is_integer" "_law_is_integer" (defArgs s__law_is_integer) (defBody s__law_is_integer) (defScope s__law_is_integer) .none kV__law_is_integer dc__law_is_integer pm__law_is_integer an__law_is_integer cd__law_is_integer ct__law_is_integer), sl__law_is_integer⟩) (c__law_is_integer : PySem.W.codeIn K cd__law_is_integer "_law_is_integer" = true) (k__law_is_integer : PySem.W.keepIn K (.ref f__law_is_integer) = true)
    {f__law_same_items : Addr} {od__law_same_items an__law_same_items : Option Addr} {sl__law_same_items : Array (Option Value)} {oc__law_same_items kV__law_same_items dc__law_same_items pm__law_same_items cd__law_same_items ct__law_same_items : Value} (a__law_same_items : PySem.W.nsIn K mainGlobals "_law_same_items" = some (some (.ref f__law_same_items))) (l__law_same_items : K.lookup f__law_same_items = some ⟨oc__law_same_items, od__law_same_items, .func (PySem.W.fnOf "_law_same_items" "_law_same_items" (defArgs s__law_same_items) (defBody s__law_same_items) (defScope s__law_same_items) .none kV__law_same_items dc__law_same_items pm__law_same_items an__law_same_items cd__law_same_items ct__law_same_items), sl__law_same_items⟩) (c__law_same_items : PySem.W.codeIn K cd__law_same_items "_law_same_items" = true) (k__law_same_items : PySem.W.keepIn K (.ref f__law_same_items) = true)
    {f__law_same : Addr} {od__law_same an__law_same : Option Addr} {sl__law_same : Array (Option Value)} {oc__law_same kV__law_same dc__law_same pm__law_same cd__law_same ct__law_same : Value} (a__law_same : PySem.W.nsIn K mainGlobals "_law_same" = some (some (.ref f__law_same))) (l__law_same : K.lookup f__law_same = some ⟨oc__law_same, od__law_same, .func (PySem.W.fnOf "_law_same" "_law_same" (defArgs s__law_same) (defBody s__law_same) (defScope s__law_same) .none kV__law_same dc__law_same pm__law_same an__law_same cd__law_same ct__law_same), sl__law_same⟩) (c__law_same : PySem.W.codeIn K cd__law_same "_law_same" = true) (k__law_same : PySem.W.keepIn K (.ref f__law_same) = true)
    {f__law_char : Addr} {od__law_char an__law_char : Option Addr} {sl__law_char : Array (Option Value)} {oc__law_char kV__law_char dc__law_char pm__law_char cd__law_char ct__law_char : Value} (a__law_char : PySem.W.nsIn K mainGlobals "_law_char" = some (some (.ref f__law_char))) (l__law_char : K.lookup f__law_char = some ⟨oc__law_char, od__law_char, .func (PySem.W.fnOf "_law_char" "_law_char" (defArgs s__law_char) (defBody s__law_char) (defScope s__law_char) .none kV__law_char dc__law_char pm__law_char an__law_char cd__law_char ct__law_char), sl__law_char⟩) (c__law_char : PySem.W.codeIn K cd__law_char "_law_char" = true) (k__law_char : PySem.W.keepIn K (.ref f__law_char) = true)
    {f__law_text : Addr} {od__law_text an__law_text : Option Addr} {sl__law_text : Array (Option Value)} {oc__law_text kV__law_text dc__law_text pm__law_text cd__law_text ct__law_text : Value} (a__law_text : PySem.W.nsIn K mainGlobals "_law_text" = some (some (.ref f__law_text))) (l__law_text : K.lookup f__law_text = some ⟨oc__law_text, od__law_text, .func (PySem.W.fnOf "_law_text" "_law_text" (defArgs s__law_text) (defBody s__law_text) (defScope s__law_text) .none kV__law_text dc__law_text pm__law_text an__law_text cd__law_text ct__law_text), sl__law_text⟩) (c__law_text : PySem.W.codeIn K cd__law_text "_law_text" = true) (k__law_text : PySem.W.keepIn K (.ref f__law_text) = true)
    {f__law_integer : Addr} {od__law_integer an__law_integer : Option Addr} {sl__law_integer : Array (Option Value)} {oc__law_integer kV__law_integer dc__law_integer pm__law_integer cd__law_integer ct__law_integer : Value} (a__law_integer : PySem.W.nsIn K mainGlobals "_law_integer" = some (some (.ref f__law_integer))) (l__law_integer : K.lookup f__law_integer = some ⟨oc__law_integer, od__law_integer, .func (PySem.W.fnOf "_law_integer" "_law_integer" (defArgs s__law_integer) (defBody s__law_integer) (defScope s__law_integer) .none kV__law_integer dc__law_integer pm__law_integer an__law_integer cd__law_integer ct__law_integer), sl__law_integer⟩) (c__law_integer : PySem.W.codeIn K cd__law_integer "_law_integer" = true) (k__law_integer : PySem.W.keepIn K (.ref f__law_integer) = true)
    {f__law_value : Addr} {od__law_value an__law_value : Option Addr} {sl__law_value : Array (Option Value)} {oc__law_value kV__law_value dc__law_value pm__law_value cd__law_value ct__law_value : Value} (a__law_value : PySem.W.nsIn K mainGlobals "_law_value" = some (some (.ref f__law_value))) (l__law_value : K.lookup f__law_value = some ⟨oc__law_value, od__law_value, .func (PySem.W.fnOf "_law_value" "_law_value" (defArgs s__law_value) (defBody s__law_value) (defScope s__law_value) .none kV__law_value dc__law_value pm__law_value an__law_value cd__law_value ct__law_value), sl__law_value⟩) (c__law_value : PySem.W.codeIn K cd__law_value "_law_value" = true) (k__law_value : PySem.W.keepIn K (.ref f__law_value) = true)
    {f__law_edits : Addr} {od__law_edits an__law_edits : Option Addr} {sl__law_edits : Array (Option Value)} {oc__law_edits kV__law_edits dc__law_edits pm__law_edits cd__law_edits ct__law_edits : Value} (a__law_edits : PySem.W.nsIn K mainGlobals "_law_edits" = some (some (.ref f__law_edits))) (l__law_edits : K.lookup f__law_edits = some ⟨oc__law_edits, od__law_edits, .func (PySem.W.fnOf "_law_edits" "_law_edits" (defArgs s__law_edits) (defBody s__law_edits) (defScope s__law_edits) .none kV__law_edits dc__law_edits pm__law_edits an__law_edits cd__law_edits ct__law_edits), sl__law_edits⟩) (c__law_edits : PySem.W.codeIn K cd__law_edits "_law_edits" = true) (k__law_edits : PySem.W.keepIn K (.ref f__law_edits) = true)
    {f__law_seal : Addr} {od__law_seal an__law_seal : Option Addr} {sl__law_seal : Array (Option Value)} {oc__law_seal kV__law_seal dc__law_seal pm__law_seal cd__law_seal ct__law_seal : Value} (a__law_seal : PySem.W.nsIn K mainGlobals "_law_seal" = some (some (.ref f__law_seal))) (l__law_seal : K.lookup f__law_seal = some ⟨oc__law_seal, od__law_seal, .func (PySem.W.fnOf "_law_seal" "_law_seal" (defArgs s__law_seal) (defBody s__law_seal) (defScope s__law_seal) .none kV__law_seal dc__law_seal pm__law_seal an__law_seal cd__law_seal ct__law_seal), sl__law_seal⟩) (c__law_seal : PySem.W.codeIn K cd__law_seal "_law_seal" = true) (k__law_seal : PySem.W.keepIn K (.ref f__law_seal) = true)
    {f__law_break : Addr} {od__law_break an__law_break : Option Addr} {sl__law_break : Array (Option Value)} {oc__law_break kV__law_break dc__law_break pm__law_break cd__law_break ct__law_break : Value} (a__law_break : PySem.W.nsIn K mainGlobals "_law_break" = some (some (.ref f__law_break))) (l__law_break : K.lookup f__law_break = some ⟨oc__law_break, od__law_break, .func (PySem.W.fnOf "_law_break" "_law_break" (defArgs s__law_break) (defBody s__law_break) (defScope s__law_break) .none kV__law_break dc__law_break pm__law_break an__law_break cd__law_break ct__law_break), sl__law_break⟩) (c__law_break : PySem.W.codeIn K cd__law_break "_law_break" = true) (k__law_break : PySem.W.keepIn K (.ref f__law_break) = true)
    {f__law_spoilt : Addr} {od__law_spoilt an__law_spoilt : Option Addr} {sl__law_spoilt : Array (Option Value)} {oc__law_spoilt kV__law_spoilt dc__law_spoilt pm__law_spoilt cd__law_spoilt ct__law_spoilt : Value} (a__law_spoilt : PySem.W.nsIn K mainGlobals "_law_spoilt" = some (some (.ref f__law_spoilt))) (l__law_spoilt : K.lookup f__law_spoilt = some ⟨oc__law_spoilt, od__law_spoilt, .func (PySem.W.fnOf "_law_spoilt" "_law_spoilt" (defArgs s__law_spoilt) (defBody s__law_spoilt) (defScope s__law_spoilt) .none kV__law_spoilt dc__law_spoilt pm__law_spoilt an__law_spoilt cd__law_spoilt ct__law_spoilt), sl__law_spoilt⟩) (c__law_spoilt : PySem.W.codeIn K cd__law_spoilt "_law_spoilt" = true) (k__law_spoilt : PySem.W.keepIn K (.ref f__law_spoilt) = true)
    {f_law : Addr} {od_law an_law : Option Addr} {sl_law : Array (Option Value)} {oc_law kV_law dc_law pm_law cd_law ct_law : Value} (a_law : PySem.W.nsIn K mainGlobals "law" = some (some (.ref f_law))) (l_law : K.lookup f_law = some ⟨oc_law, od_law, .func (PySem.W.fnOf "law" "law" (defArgs s_law) (defBody s_law) (defScope s_law) .none kV_law dc_law pm_law an_law cd_law ct_law), sl_law⟩) (c_law : PySem.W.codeIn K cd_law "law" = true) (k_law : PySem.W.keepIn K (.ref f_law) = true)
    (z_abs : PySem.W.nsIn K mainGlobals "abs" = some none)
    (z_bool : PySem.W.nsIn K mainGlobals "bool" = some none)
    (z_enumerate : PySem.W.nsIn K mainGlobals "enumerate" = some none)
    (z_int : PySem.W.nsIn K mainGlobals "int" = some none)
    (z_isinstance : PySem.W.nsIn K mainGlobals "isinstance" = some none)
    (z_len : PySem.W.nsIn K mainGlobals "len" = some none)
    (z_list : PySem.W.nsIn K mainGlobals "list" = some none)
    (z_ord : PySem.W.nsIn K mainGlobals "ord" = some none)
    (z_range : PySem.W.nsIn K mainGlobals "range" = some none)
    (z_str : PySem.W.nsIn K mainGlobals "str" = some none)
    (z_tuple : PySem.W.nsIn K mainGlobals "tuple" = some none)
    {t_FACTOR : Tok} (x_FACTOR : PySem.W.nsIn K mainGlobals "FACTOR" = some (some (.int (257) t_FACTOR)))
    {t_FIRST : Tok} (x_FIRST : PySem.W.nsIn K mainGlobals "FIRST" = some (some (.int (17) t_FIRST)))
    {t_SIZE : Tok} (x_SIZE : PySem.W.nsIn K mainGlobals "SIZE" = some (some (.int (999983) t_SIZE))) :
    ∃ fd : FuncData, (∀ (s : Shared) (v : Value), BindsTo s fd ⟨[v], []⟩ [("script", v)]) ∧ ∀ base : Heap, K.In base → base.Ns mainGlobals mg → FnOk l.prog w K mg base (L2.CX l.prog w) 14 fa fd ["script"] (spLaw K) := by
  have e := hfa.symm.trans (PySem.W.mg_of X G a_law)
  cases e
  exact ⟨PySem.W.fnOf "law" "law" (defArgs s_law) (defBody s_law) (defScope s_law) .none kV_law dc_law pm_law an_law cd_law ct_law, fun s v => .of_eq rfl, fun base _ _ => ok_all ⟨PySem.W.mg_none_of X G z_abs, PySem.W.mg_none_of X G z_bool, PySem.W.mg_none_of X G z_enumerate, PySem.W.mg_none_of X G z_int, PySem.W.mg_none_of X G z_isinstance, PySem.W.mg_none_of X G z_len, PySem.W.mg_none_of X G z_list, PySem.W.mg_none_of X G z_ord, PySem.W.mg_none_of X G z_range, PySem.W.mg_none_of X G z_str, PySem.W.mg_none_of X G z_tuple, ⟨_, PySem.W.mg_of X G x_FACTOR⟩, ⟨_, PySem.W.mg_of X G x_FIRST⟩, ⟨_, PySem.W.mg_of X G x_SIZE⟩⟩ (fun_mk (st := s_code_of) l_code_of c_code_of k_code_of) (PySem.W.mg_of X G a_code_of) (fun_mk (st := s_to_bytes_of) l_to_bytes_of c_to_bytes_of k_to_bytes_of) (PySem.W.mg_of X G a_to_bytes_of) (fun_mk (st := s_pack_string) l_pack_string c_pack_string k_pack_string) (PySem.W.mg_of X G a_pack_string) (fun_mk (st := s_pack_many) l_pack_many c_pack_many k_pack_many) (PySem.W.mg_of X G a_pack_many) (fun_mk (st := s_pack) l_pack c_pack k_pack) (PySem.W.mg_of X G a_pack) (fun_mk (st := s_seal_of) l_seal_of c_seal_of k_seal_of) (PySem.W.mg_of X G a_seal_of) (fun_mk (st := s_sealed) l_sealed c_sealed k_sealed) (PySem.W.mg_of X G a_sealed) (fun_mk (st := s_first_break) l_first_break c_first_break k_first_break) (PySem.W.mg_of X G a_first_break) (fun_mk (st := s__law_tape) l__law_tape c__law_tape k__law_tape) (PySem.W.mg_of X G a__law_tape) (fun_mk (st := s__law_take) l__law_take c__law_take k__law_take) (PySem.W.mg_of X G a__law_take) (fun_mk (st := s__law_is_integer) l__law_is_integer c__law_is_integer k__law_is_integer) (PySem.W.mg_of X G a__law_is_integer) (fun_mk (st := s__law_same_items) l__law_same_items c__law_same_items k__law_same_items) (PySem.W.mg_of X G a__law_same_items) (fun_mk (st := s__law_same) l__law_same c__law_same k__law_same) (PySem.W.mg_of X G a__law_same) (fun_mk (st := s__law_char) l__law_char c__law_char k__law_char) (PySem.W.mg_of X G a__law_char) (fun_mk (st := s__law_text) l__law_text c__law_text k__law_text) (PySem.W.mg_of X G a__law_text) (fun_mk (st := s__law_integer) l__law_integer c__law_integer k__law_integer) (PySem.W.mg_of X G a__law_integer) (fun_mk (st := s__law_value) l__law_value c__law_value k__law_value) (PySem.W.mg_of X G a__law_value) (fun_mk (st := s__law_edits) l__law_edits c__law_edits k__law_edits) (PySem.W.mg_of X G a__law_edits) (fun_mk (st := s__law_seal) l__law_seal c__law_seal k__law_seal) (PySem.W.mg_of X G a__law_seal) (fun_mk (st := s__law_break) l__law_break c__law_break k__law_break) (PySem.W.mg_of X G a__law_break) (fun_mk (st := s__law_spoilt) l__law_spoilt c__law_spoilt k__law_spoilt) (PySem.W.mg_of X G a__law_spoilt) (fun_mk (st := s_law) l_law c_law k_law) (PySem.W.mg_of X G a_law)⟩
end K86
set_option Elab.async false
set_option maxRecDepth 100000
open PySem PySem.W PyProof.Rows
set_option maxHeartbeats 0 in
theorem PySem.Challenge.cw_versionhouse_k86_sealed_logs_holds : PySem.Challenge.rw_versionhouse_k86_sealed_logs.Holds := by
  w_on; o_law; k_head; (case hw => w_witness2)
  k_fill
  refine L2.walk_of (l := PySem.Challenge.rw_versionhouse_k86_sealed_logs) (n := 63) (k := 14) (x := "script") (CX := fun w => L2.CX PySem.Challenge.pw_versionhouse_k86_sealed_logs w) (sp := fun w => K86.spLaw _) rfl (by decide) rfl ⟨rfl, by decide, by decide⟩ (fun w h Y => PySem.W.kIn_of Y) ?F (fun _ _ a ns hl _ hS => ⟨a, ns, rfl, hS, fun _ => rfl⟩) (fun _ _ _ _ _ h => VH.cx_none h)
  case F =>
    intro w mg fa h KX G hmg
    refine' K86.all_mk KX G hmg ?a_code_of ?l_code_of ?c_code_of ?k_code_of ?a_to_bytes_of ?l_to_bytes_of ?c_to_bytes_of ?k_to_bytes_of ?a_pack_string ?l_pack_string ?c_pack_string ?k_pack_string ?a_pack_many ?l_pack_many ?c_pack_many ?k_pack_many ?a_pack ?l_pack ?c_pack ?k_pack ?a_seal_of ?l_seal_of ?c_seal_of ?k_seal_of ?a_sealed ?l_sealed ?c_sealed ?k_sealed ?a_first_break ?l_first_break ?c_first_break ?k_first_break ?a__law_tape ?l__law_tape ?c__law_tape ?k__law_tape ?a__law_take ?l__law_take ?c__law_take ?k__law_take ?a__law_is_integer ?l__law_is_integer ?c__law_is_integer ?k__law_is_integer ?a__law_same_items ?l__law_same_items ?c__law_same_items ?k__law_same_items ?a__law_same ?l__law_same ?c__law_same ?k__law_same ?a__law_char ?l__law_char ?c__law_char ?k__law_char ?a__law_text ?l__law_text ?c__law_text ?k__law_text ?a__law_integer ?l__law_integer ?c__law_integer ?k__law_integer ?a__law_value ?l__law_value ?c__law_value ?k__law_value ?a__law_edits ?l__law_edits ?c__law_edits ?k__law_edits ?a__law_seal ?l__law_seal ?c__law_seal ?k__law_seal ?a__law_break ?l__law_break ?c__law_break ?k__law_break ?a__law_spoilt ?l__law_spoilt ?c__law_spoilt ?k__law_spoilt ?a_law ?l_law ?c_law ?k_law ?z_abs ?z_bool ?z_enumerate ?z_int ?z_isinstance ?z_len ?z_list ?z_ord ?z_range ?z_str ?z_tuple ?x_FACTOR ?x_FIRST ?x_SIZE
    (case a_code_of => k_is); (case l_code_of => k_is); (case c_code_of => k_is); (case k_code_of => k_is); (case a_to_bytes_of => k_is); (case l_to_bytes_of => k_is); (case c_to_bytes_of => k_is); (case k_to_bytes_of => k_is); (case a_pack_string => k_is); (case l_pack_string => k_is); (case c_pack_string => k_is); (case k_pack_string => k_is); (case a_pack_many => k_is); (case l_pack_many => k_is); (case c_pack_many => k_is); (case k_pack_many => k_is); (case a_pack => k_is); (case l_pack => k_is); (case c_pack => k_is); (case k_pack => k_is); (case a_seal_of => k_is); (case l_seal_of => k_is); (case c_seal_of => k_is); (case k_seal_of => k_is); (case a_sealed => k_is); (case l_sealed => k_is); (case c_sealed => k_is); (case k_sealed => k_is); (case a_first_break => k_is); (case l_first_break => k_is); (case c_first_break => k_is); (case k_first_break => k_is); (case a__law_tape => k_is); (case l__law_tape => k_is); (case c__law_tape => k_is); (case k__law_tape => k_is); (case a__law_take => k_is); (case l__law_take => k_is); (case c__law_take => k_is); (case k__law_take => k_is); (case a__law_is_integer => k_is); (case l__law_is_integer => k_is); (case c__law_is_integer => k_is); (case k__law_is_integer => k_is); (case a__law_same_items => k_is); (case l__law_same_items => k_is); (case c__law_same_items => k_is); (case k__law_same_items => k_is); (case a__law_same => k_is); (case l__law_same => k_is); (case c__law_same => k_is); (case k__law_same => k_is); (case a__law_char => k_is); (case l__law_char => k_is); (case c__law_char => k_is); (case k__law_char => k_is); (case a__law_text => k_is); (case l__law_text => k_is); (case c__law_text => k_is); (case k__law_text => k_is); (case a__law_integer => k_is); (case l__law_integer => k_is); (case c__law_integer => k_is); (case k__law_integer => k_is); (case a__law_value => k_is); (case l__law_value => k_is); (case c__law_value => k_is); (case k__law_value => k_is); (case a__law_edits => k_is); (case l__law_edits => k_is); (case c__law_edits => k_is); (case k__law_edits => k_is); (case a__law_seal => k_is); (case l__law_seal => k_is); (case c__law_seal => k_is); (case k__law_seal => k_is); (case a__law_break => k_is); (case l__law_break => k_is); (case c__law_break => k_is); (case k__law_break => k_is); (case a__law_spoilt => k_is); (case l__law_spoilt => k_is); (case c__law_spoilt => k_is); (case k__law_spoilt => k_is); (case a_law => k_is); (case l_law => k_is); (case c_law => k_is); (case k_law => k_is); (case z_abs => k_is); (case z_bool => k_is); (case z_enumerate => k_is); (case z_int => k_is); (case z_isinstance => k_is); (case z_len => k_is); (case z_list => k_is); (case z_ord => k_is); (case z_range => k_is); (case z_str => k_is); (case z_tuple => k_is); (case x_FACTOR => k_is); (case x_FIRST => k_is); (case x_SIZE => k_is)
