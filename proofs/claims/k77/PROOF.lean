import PyProof.Rows.All
import Wide.All
import OpenK.AllK
import Wide.FinOn
import HandS.ForMost
import HandS.Exc
import HandS.ExcOwn
import HandS.TryOnly
import HandS.Defaults
import HandS.NoneIn
import HandS.TupAny
import HandS.TupMul
import HandS.Style
import HandS.Deep
import HandS.IsInst
import HandS.Conv
import HandS.Wide
import HandS.Walk
import KE.LtData
import KE.DataCmp
import PyProof.P3In
import PyProof.StrBlock2
import HandS.Steps
import HandS.SortInts
import HandS.Zip
import HandS.More
import PyProof.ListStr
import HandS.Text
import HandS.SetKeys
import HandS.DictComp
import HandS.Iter
import KE.GoesMore
import PyProof.EnumMake
import HandS.Set
import HandS.TupSets
import HandS.Small
import PyProof.DictUpdate
import HandS.Head0
import HandS.Head1
import HandS.Head2
import HandS.HeadEnd
import HandS.HeadHook1
import HandS.HeadHook2
import HandS.HeadHook3
import PySem.Challenge.RW_ledgertongue_k77_whole_rules_at_the_ends
set_option Elab.async false
set_option linter.all false
set_option maxRecDepth 100000
set_option maxHeartbeats 4000000
/-! Pi1: plain data, how it stands in the abstract heap, environments. -/
namespace Pi
open PySem PySem.Spec PyProof.Rows L2
abbrev St := L2.St
/-- the program, the world and what was written by the top -/
structure Fr where
  K : PySem.W.Frag
  prog : Program
  w : World
abbrev _root_.L2.Cx.fr (X : L2.Cx) : Fr := ⟨X.K, X.prog, X.w⟩

/-- plain data: a text is the list of its code points; a dict has a kind (0: keys ints and texts) -/
inductive D where
  | non | bl (b : Bool) | int (i : Int) | str (s : List Nat)
  | tup (l : List D) | lst (l : List D) | dic (k : Nat) (ks vs : List D)
  | scr (ns : List Int)

abbrev tl (x : Str) : List Nat := x.cps.toList
def mkS (s : List Nat) : Str := ⟨s.toArray⟩
theorem mkS_inj {a b : List Nat} (h : mkS a = mkS b) : a = b := by
  have := congrArg (fun s : Str => s.cps.toList) h
  simpa [mkS] using this
theorem mkS_tl (x : Str) : mkS (tl x) = x := by
  obtain ⟨a⟩ := x
  simp [mkS]
theorem tl_mkS (s : List Nat) : tl (mkS s) = s := rfl

def keyD : Key → D
  | .inl i => .int i
  | .inr x => .str (tl x)

/-- a dict whose keys are ints, texts and None -/
def ND (K : Fr) (a : Addr) (kvs : List (Option Key × V)) : HO := .ext fun h => kvs.length ≤ sizeLine ∧ (a == sysModules) = false ∧ ∃ vs, KV kvs vs ∧ h.DictOf (noneKind K.prog K.w) a vs
def nkD : Option Key → D
  | none => .non
  | some k => keyD k
/-- a dict of kind k at a, read; owned -/
def DcAt (K : Fr) (H : Hp) (a : Addr) : Nat → List D → List V → Prop
  | 0, ks, xs => ∃ kvs, Rd H a (.dK kvs) ∧ ks = kvs.map (fun p => keyD p.1) ∧ xs = kvs.map (·.2)
  | 2, ks, xs => ∃ kvs, H a = some (ND K a kvs) ∧ ks = kvs.map (fun p => nkD p.1) ∧ xs = kvs.map (·.2)
  | _, _, _ => False
def DcOwn (K : Fr) (H : Hp) (a : Addr) : Nat → List D → List V → Prop
  | 0, ks, xs => ∃ kvs, H a = some (.dK kvs) ∧ ks = kvs.map (fun p => keyD p.1) ∧ xs = kvs.map (·.2)
  | 2, ks, xs => ∃ kvs, H a = some (ND K a kvs) ∧ ks = kvs.map (fun p => nkD p.1) ∧ xs = kvs.map (·.2)
  | _, _, _ => False
theorem DcOwn.at {K : Fr} {H : Hp} {a : Addr} : ∀ {k : Nat} {ks : List D} {xs : List V}, DcOwn K H a k ks xs → DcAt K H a k ks xs
  | 0, _, _, ⟨kvs, h, e⟩ => ⟨kvs, .inl h, e⟩
  | 1, _, _, h => h
  | 2, _, _, h => h
  | _ + 3, _, _, h => h
theorem DcOwn.some {K : Fr} {H : Hp} {a : Addr} : ∀ {k : Nat} {ks : List D} {xs : List V}, DcOwn K H a k ks xs → ∃ u, H a = some u ∧ ((∃ kvs, u = .dK kvs) ∨ ∃ kvs, u = ND K a kvs)
  | 0, _, _, ⟨kvs, h, e⟩ => ⟨_, h, .inl ⟨_, rfl⟩⟩
  | 1, _, _, h => h.elim
  | 2, _, _, ⟨kvs, h, e⟩ => ⟨_, h, .inr ⟨_, rfl⟩⟩
  | _ + 3, _, _, h => h.elim
theorem DcOwn.same {K : Fr} {H H' : Hp} {a : Addr} (e : H' a = H a) : ∀ {k : Nat} {ks : List D} {xs : List V}, DcOwn K H a k ks xs → DcOwn K H' a k ks xs
  | 0, _, _, ⟨kvs, h, q⟩ => ⟨kvs, e.trans h, q⟩
  | 1, _, _, h => h
  | 2, _, _, ⟨kvs, h, q⟩ => ⟨kvs, e.trans h, q⟩
  | _ + 3, _, _, h => h
theorem DcAt.mono {K : Fr} {H H' : Hp} {a : Addr} (s : ∀ u, H a = some u → H' a = some u) : ∀ {k : Nat} {ks : List D} {xs : List V}, DcAt K H a k ks xs → DcAt K H' a k ks xs
  | 0, _, _, ⟨kvs, h, q⟩ => ⟨kvs, h.elim (fun h => .inl (s _ h)) (fun ⟨o, h⟩ => .inr ⟨o, s _ h⟩), q⟩
  | 1, _, _, h => h
  | 2, _, _, ⟨kvs, h, q⟩ => ⟨kvs, s _ h, q⟩
  | _ + 3, _, _, h => h

mutual
/-- v is d: frozen lists and dicts stand at Z -/
def Rep (K : Fr) (H : Hp) (Z : Addr → Prop) : D → V → Prop
  | .non, v => v = .non
  | .bl b, v => v = .bl b
  | .int i, v => v = .int i
  | .str s, v => v = .str (mkS s)
  | .tup ds, v => ∃ a xs, v = .ref a ∧ SqT K.K H a xs ∧ RepL K H Z ds xs
  | .lst ds, v => ∃ a xs, v = .ref a ∧ H a = some (.lst xs) ∧ Z a ∧ RepL K H Z ds xs
  | .dic k ks vs, v => ∃ a xs, v = .ref a ∧ DcAt K H a k ks xs ∧ Z a ∧ RepL K H Z vs xs
  | .scr ns, v => ∃ a, v = .ref a ∧ SqL K.K H a (ns.map V.int) ∧ (Z a ∨ ∀ H', SqL K.K H' a (ns.map V.int))
def RepL (K : Fr) (H : Hp) (Z : Addr → Prop) : List D → List V → Prop
  | [], xs => xs = []
  | d :: ds, xs => ∃ v r, xs = v :: r ∧ Rep K H Z d v ∧ RepL K H Z ds r
end

/-- neither a list nor a dict -/
def D.atom : D → Bool
  | .lst _ => false
  | .dic _ _ _ => false
  | _ => true

mutual
/-- v is d, its lists and dicts (but those within tuples) stand at F, nobody else's -/
def Own (K : Fr) (H : Hp) (Z : Addr → Prop) : D → List Addr → V → Prop
  | .lst ds, F, v => ∃ a xs G, v = .ref a ∧ F = a :: G ∧ H a = some (.lst xs) ∧ ¬ Z a ∧ a ∉ G ∧ OwnL K H Z ds G xs
  | .dic k ks vs, F, v => ∃ a xs G, v = .ref a ∧ F = a :: G ∧ DcOwn K H a k ks xs ∧ ¬ Z a ∧ a ∉ G ∧ OwnL K H Z vs G xs
  | d, F, v => F = [] ∧ Rep K H Z d v
def OwnL (K : Fr) (H : Hp) (Z : Addr → Prop) : List D → List Addr → List V → Prop
  | [], F, xs => F = [] ∧ xs = []
  | d :: ds, F, xs => ∃ v r F1 F2, xs = v :: r ∧ F = F1 ++ F2 ∧ (∀ a ∈ F1, a ∉ F2) ∧ Own K H Z d F1 v ∧ OwnL K H Z ds F2 r
end

theorem own_atom {K : Fr} {H : Hp} {Z : Addr → Prop} {d : D} {F : List Addr} {v : V} (h : d.atom = true) : Own K H Z d F v ↔ F = [] ∧ Rep K H Z d v := by
  cases d <;> first | (simp [D.atom] at h; done) | simp only [Own]

/-- what Rep leans on is kept -/
structure Kp (K : Fr) (Z : Addr → Prop) (H H' : Hp) : Prop where
  tup : ∀ a xs, Rd H a (.tup xs) → Rd H' a (.tup xs)
  lst : ∀ a xs, Z a → H a = some (.lst xs) → H' a = some (.lst xs)
  rdl : ∀ a xs, Z a → Rd H a (.lst xs) → Rd H' a (.lst xs)
  dic : ∀ a k ks xs, Z a → DcAt K H a k ks xs → DcAt K H' a k ks xs
  frz : ∀ a o u, Z a → H a = some (.frz o u) → H' a = some (.frz o u)

section
variable {K : Fr} {H H' H'' : Hp} {Z Z' Z'' : Addr → Prop}
theorem Rd.same {H H' : Hp} (s : Same H H') {a : Addr} {u : HO} (h : Rd H a u) : Rd H' a u := by
  rcases h with h | ⟨o, h⟩
  · exact .inl (s _ _ h)
  · exact .inr ⟨o, s _ _ h⟩
theorem Kp.of_same (s : Same H H') : Kp K Z H H' :=
  ⟨fun _ _ h => Rd.same s h, fun _ _ _ h => s _ _ h, fun _ _ _ h => Rd.same s h, fun _ _ _ _ _ h => h.mono (s _), fun _ _ _ _ h => s _ _ h⟩
theorem Kp.refl : Kp K Z H H := .of_same (Same.refl H)
theorem Kp.trans (a : Kp K Z H H') (b : Kp K Z' H' H'') (z : ∀ a, Z a → Z' a) : Kp K Z H H'' :=
  ⟨fun _ _ h => b.tup _ _ (a.tup _ _ h), fun _ _ q h => b.lst _ _ (z _ q) (a.lst _ _ q h), fun _ _ q h => b.rdl _ _ (z _ q) (a.rdl _ _ q h), fun _ _ _ _ q h => b.dic _ _ _ _ (z _ q) (a.dic _ _ _ _ q h), fun _ _ _ q h => b.frz _ _ _ (z _ q) (a.frz _ _ _ q h)⟩
theorem Kp.sqT (k : Kp K Z H H') {a : Addr} {xs : List V} (h : SqT K.K H a xs) : SqT K.K H' a xs := by
  rcases h with h | h
  · exact .inl (k.tup _ _ h)
  · exact .inr h
/-- what is no tuple and not frozen is written -/
theorem Kp.upd {p : Addr} {o : HO} (hz : ¬ Z p) (ht : ∀ xs, ¬ Rd H p (.tup xs)) : Kp K Z H (upd H p o) := by
  have ne : ∀ a, Z a → a ≠ p := fun a h e => hz (e ▸ h)
  have rd : ∀ a u, a ≠ p → Rd H a u → Rd (L2.upd H p o) a u := fun a u n h => by
    rcases h with h | ⟨ob, h⟩
    · exact .inl (by rw [upd_ne n]; exact h)
    · exact .inr ⟨ob, by rw [upd_ne n]; exact h⟩
  refine ⟨fun a xs h => ?_, fun a xs z h => ?_, fun a xs z h => rd a _ (ne a z) h, fun a k ks xs z h => h.mono fun u e => by rw [upd_ne (ne a z)]; exact e, fun a o u z h => by rw [upd_ne (ne a z)]; exact h⟩
  · by_cases e : a = p
    · subst e; exact absurd h (ht xs)
    · exact rd a _ e h
  · rw [upd_ne (ne a z)]; exact h

mutual
theorem Rep.kp (k : Kp K Z H H') (z : ∀ a, Z a → Z' a) : ∀ (d : D) (v : V), Rep K H Z d v → Rep K H' Z' d v
  | .non, _, h => by simp only [Rep] at h ⊢; exact h
  | .bl _, _, h => by simp only [Rep] at h ⊢; exact h
  | .int _, _, h => by simp only [Rep] at h ⊢; exact h
  | .str _, _, h => by simp only [Rep] at h ⊢; exact h
  | .tup ds, _, h => by
    simp only [Rep] at h ⊢
    obtain ⟨a, xs, e, q, r⟩ := h
    exact ⟨a, xs, e, k.sqT q, RepL.kp k z ds xs r⟩
  | .lst ds, _, h => by
    simp only [Rep] at h ⊢
    obtain ⟨a, xs, e, q, za, r⟩ := h
    exact ⟨a, xs, e, k.lst _ _ za q, z _ za, RepL.kp k z ds xs r⟩
  | .dic _ _ vs, _, h => by
    simp only [Rep] at h ⊢
    obtain ⟨a, xs, e, q, za, r⟩ := h
    exact ⟨a, xs, e, k.dic _ _ _ _ za q, z _ za, RepL.kp k z vs _ r⟩
  | .scr _, _, h => by
    simp only [Rep] at h ⊢
    obtain ⟨a, e, q, za⟩ := h
    rcases za with za | za
    · refine ⟨a, e, ?_, .inl (z _ za)⟩
      rcases q with q | q
      · exact .inl (k.rdl _ _ za q)
      · exact .inr q
    · exact ⟨a, e, za _, .inr za⟩
theorem RepL.kp (k : Kp K Z H H') (z : ∀ a, Z a → Z' a) : ∀ (ds : List D) (xs : List V), RepL K H Z ds xs → RepL K H' Z' ds xs
  | [], _, h => by simp only [RepL] at h ⊢; exact h
  | d :: ds, _, h => by
    simp only [RepL] at h ⊢
    obtain ⟨v, r, e, h1, h2⟩ := h
    exact ⟨v, r, e, Rep.kp k z d v h1, RepL.kp k z ds r h2⟩
end
mutual
theorem Own.kp (k : Kp K Z H H') (z : ∀ a, Z a → Z' a) : ∀ (d : D) (F : List Addr) (v : V), (∀ a ∈ F, H' a = H a) → (∀ a ∈ F, ¬ Z' a) → Own K H Z d F v → Own K H' Z' d F v
  | .non, _, _, _, _, h => by simp only [Own] at h ⊢; exact ⟨h.1, Rep.kp k z _ _ h.2⟩
  | .bl _, _, _, _, _, h => by simp only [Own] at h ⊢; exact ⟨h.1, Rep.kp k z _ _ h.2⟩
  | .int _, _, _, _, _, h => by simp only [Own] at h ⊢; exact ⟨h.1, Rep.kp k z _ _ h.2⟩
  | .str _, _, _, _, _, h => by simp only [Own] at h ⊢; exact ⟨h.1, Rep.kp k z _ _ h.2⟩
  | .tup _, _, _, _, _, h => by simp only [Own] at h ⊢; exact ⟨h.1, Rep.kp k z _ _ h.2⟩
  | .scr _, _, _, _, _, h => by simp only [Own] at h ⊢; exact ⟨h.1, Rep.kp k z _ _ h.2⟩
  | .lst ds, F, _, hF, hZ, h => by
    simp only [Own] at h ⊢
    obtain ⟨a, xs, G, e, eF, q, _, na, r⟩ := h
    subst eF
    exact ⟨a, xs, G, e, rfl, (hF a List.mem_cons_self).trans q, hZ a List.mem_cons_self, na, OwnL.kp k z ds G xs (fun b hb => hF b (List.mem_cons_of_mem _ hb)) (fun b hb => hZ b (List.mem_cons_of_mem _ hb)) r⟩
  | .dic _ _ vs, F, _, hF, hZ, h => by
    simp only [Own] at h ⊢
    obtain ⟨a, xs, G, e, eF, q, _, na, r⟩ := h
    subst eF
    exact ⟨a, xs, G, e, rfl, q.same (hF a List.mem_cons_self), hZ a List.mem_cons_self, na, OwnL.kp k z vs G _ (fun b hb => hF b (List.mem_cons_of_mem _ hb)) (fun b hb => hZ b (List.mem_cons_of_mem _ hb)) r⟩
theorem OwnL.kp (k : Kp K Z H H') (z : ∀ a, Z a → Z' a) : ∀ (ds : List D) (F : List Addr) (xs : List V), (∀ a ∈ F, H' a = H a) → (∀ a ∈ F, ¬ Z' a) → OwnL K H Z ds F xs → OwnL K H' Z' ds F xs
  | [], _, _, _, _, h => by simp only [OwnL] at h ⊢; exact h
  | d :: ds, F, _, hF, hZ, h => by
    simp only [OwnL] at h ⊢
    obtain ⟨v, r, F1, F2, e, eF, dj, h1, h2⟩ := h
    subst eF
    exact ⟨v, r, F1, F2, e, rfl, dj, Own.kp k z d F1 v (fun a ha => hF a (List.mem_append_left _ ha)) (fun a ha => hZ a (List.mem_append_left _ ha)) h1,
      OwnL.kp k z ds F2 r (fun a ha => hF a (List.mem_append_right _ ha)) (fun a ha => hZ a (List.mem_append_right _ ha)) h2⟩
end
mutual
/-- what is owned, frozen -/
theorem Own.rep (z : ∀ a, Z a → Z' a) : ∀ (d : D) (F : List Addr) (v : V), (∀ a ∈ F, Z' a) → Own K H Z d F v → Rep K H Z' d v
  | .non, _, _, _, h => by simp only [Own] at h; exact Rep.kp .refl z _ _ h.2
  | .bl _, _, _, _, h => by simp only [Own] at h; exact Rep.kp .refl z _ _ h.2
  | .int _, _, _, _, h => by simp only [Own] at h; exact Rep.kp .refl z _ _ h.2
  | .str _, _, _, _, h => by simp only [Own] at h; exact Rep.kp .refl z _ _ h.2
  | .tup _, _, _, _, h => by simp only [Own] at h; exact Rep.kp .refl z _ _ h.2
  | .scr _, _, _, _, h => by simp only [Own] at h; exact Rep.kp .refl z _ _ h.2
  | .lst ds, F, _, hF, h => by
    simp only [Own] at h
    simp only [Rep]
    obtain ⟨a, xs, G, e, eF, q, _, na, r⟩ := h
    subst eF
    exact ⟨a, xs, e, q, hF a List.mem_cons_self, OwnL.rep z ds G xs (fun b hb => hF b (List.mem_cons_of_mem _ hb)) r⟩
  | .dic _ _ vs, F, _, hF, h => by
    simp only [Own] at h
    simp only [Rep]
    obtain ⟨a, xs, G, e, eF, q, _, na, r⟩ := h
    subst eF
    exact ⟨a, xs, e, q.at, hF a List.mem_cons_self, OwnL.rep z vs G _ (fun b hb => hF b (List.mem_cons_of_mem _ hb)) r⟩
theorem OwnL.rep (z : ∀ a, Z a → Z' a) : ∀ (ds : List D) (F : List Addr) (xs : List V), (∀ a ∈ F, Z' a) → OwnL K H Z ds F xs → RepL K H Z' ds xs
  | [], _, _, _, h => by simp only [OwnL] at h; simp only [RepL]; exact h.2
  | d :: ds, F, _, hF, h => by
    simp only [OwnL] at h
    simp only [RepL]
    obtain ⟨v, r, F1, F2, e, eF, dj, h1, h2⟩ := h
    subst eF
    exact ⟨v, r, e, Own.rep z d F1 v (fun a ha => hF a (List.mem_append_left _ ha)) h1, OwnL.rep z ds F2 r (fun a ha => hF a (List.mem_append_right _ ha)) h2⟩
end
/-- what stands at an owned place -/
def Cont (u : HO) : Prop := (∃ xs, u = .lst xs) ∨ (∃ kvs, u = .dK kvs) ∨ ∃ φ, u = .ext φ
mutual
theorem Own.dom : ∀ (d : D) (F : List Addr) (v : V), Own K H Z d F v → ∀ a ∈ F, ¬ Z a ∧ ∃ u, H a = some u ∧ Cont u
  | .non, _, _, h, a, ha => by simp only [Own] at h; rw [h.1] at ha; simp at ha
  | .bl _, _, _, h, a, ha => by simp only [Own] at h; rw [h.1] at ha; simp at ha
  | .int _, _, _, h, a, ha => by simp only [Own] at h; rw [h.1] at ha; simp at ha
  | .str _, _, _, h, a, ha => by simp only [Own] at h; rw [h.1] at ha; simp at ha
  | .tup _, _, _, h, a, ha => by simp only [Own] at h; rw [h.1] at ha; simp at ha
  | .scr _, _, _, h, a, ha => by simp only [Own] at h; rw [h.1] at ha; simp at ha
  | .lst ds, F, _, h, b, hb => by
    simp only [Own] at h
    obtain ⟨a, xs, G, e, eF, q, nz, na, r⟩ := h
    subst eF
    rcases List.mem_cons.mp hb with e | hb
    · rw [e]; exact ⟨nz, _, q, .inl ⟨_, rfl⟩⟩
    · exact OwnL.dom ds G xs r b hb
  | .dic _ _ vs, F, _, h, b, hb => by
    simp only [Own] at h
    obtain ⟨a, xs, G, e, eF, q, nz, na, r⟩ := h
    subst eF
    rcases List.mem_cons.mp hb with e | hb
    · rw [e]
      obtain ⟨u, hu, c⟩ := q.some
      refine ⟨nz, u, hu, ?_⟩
      rcases c with ⟨kvs, c⟩ | ⟨kvs, c⟩
      · exact .inr (.inl ⟨_, c⟩)
      · exact .inr (.inr ⟨_, c⟩)
    · exact OwnL.dom vs G _ r b hb
theorem OwnL.dom : ∀ (ds : List D) (F : List Addr) (xs : List V), OwnL K H Z ds F xs → ∀ a ∈ F, ¬ Z a ∧ ∃ u, H a = some u ∧ Cont u
  | [], _, _, h, a, ha => by simp only [OwnL] at h; rw [h.1] at ha; simp at ha
  | d :: ds, F, _, h, a, ha => by
    simp only [OwnL] at h
    obtain ⟨v, r, F1, F2, e, eF, dj, h1, h2⟩ := h
    subst eF
    rcases List.mem_append.mp ha with ha | ha
    · exact Own.dom d F1 v h1 a ha
    · exact OwnL.dom ds F2 r h2 a ha
end
theorem Cont.noTup {a : Addr} {u : HO} (h : H a = some u) (c : Cont u) : ∀ xs, ¬ Rd H a (.tup xs) := fun xs r => by
  rcases r with r | ⟨o, r⟩ <;> rw [h] at r <;> rcases c with ⟨_, e⟩ | ⟨_, e⟩ | ⟨_, e⟩ <;> subst e <;> cases r
theorem RepL.length : ∀ {ds : List D} {xs : List V}, RepL K H Z ds xs → xs.length = ds.length
  | [], _, h => by simp only [RepL] at h; rw [h]; rfl
  | d :: ds, _, h => by
    simp only [RepL] at h
    obtain ⟨v, r, e, _, h2⟩ := h
    rw [e, List.length_cons, List.length_cons, RepL.length h2]
theorem RepL.get : ∀ {ds : List D} {xs : List V} {i : Nat} {d : D}, RepL K H Z ds xs → ds[i]? = some d → ∃ v, xs[i]? = some v ∧ Rep K H Z d v
  | [], _, _, _, _, e => by simp at e
  | d :: ds, _, 0, _, h, e => by
    simp only [RepL] at h
    obtain ⟨v, r, ex, h1, _⟩ := h
    simp at e
    subst e ex
    exact ⟨v, rfl, h1⟩
  | d :: ds, _, i + 1, _, h, e => by
    simp only [RepL] at h
    obtain ⟨v, r, ex, _, h2⟩ := h
    subst ex
    obtain ⟨u, h3, h4⟩ := RepL.get (i := i) h2 (by simpa using e)
    exact ⟨u, by simpa using h3, h4⟩
theorem RepL.append : ∀ {ds es : List D} {xs ys : List V}, RepL K H Z ds xs → RepL K H Z es ys → RepL K H Z (ds ++ es) (xs ++ ys)
  | [], _, _, _, h, q => by simp only [RepL] at h; subst h; exact q
  | d :: ds, _, _, _, h, q => by
    simp only [RepL] at h
    obtain ⟨v, r, e, h1, h2⟩ := h
    subst e
    show RepL K H Z (d :: (ds ++ _)) _
    simp only [RepL]
    exact ⟨v, r ++ _, rfl, h1, RepL.append h2 q⟩
theorem RepL.of_get : ∀ {ds : List D} {xs : List V}, xs.length = ds.length → (∀ (i : Nat) (d : D) (v : V), ds[i]? = some d → xs[i]? = some v → Rep K H Z d v) → RepL K H Z ds xs
  | [], xs, e, _ => by simp only [RepL]; exact List.length_eq_zero_iff.mp e
  | d :: ds, [], e, _ => by simp at e
  | d :: ds, v :: xs, e, h => by
    simp only [RepL]
    exact ⟨v, xs, rfl, h 0 d v rfl rfl, RepL.of_get (by simpa using e) fun i d' v' h1 h2 => h (i + 1) d' v' (by simpa using h1) (by simpa using h2)⟩
theorem RepL.take {ds : List D} {xs : List V} (n : Nat) (h : RepL K H Z ds xs) : RepL K H Z (ds.take n) (xs.take n) := by
  refine RepL.of_get (by simp [h.length]) fun i d v h1 h2 => ?_
  have hi : i < n := by
    rcases Nat.lt_or_ge i n with z | z
    · exact z
    · rw [List.getElem?_eq_none (by simp; omega)] at h1; cases h1
  rw [List.getElem?_take_of_lt hi] at h1 h2
  obtain ⟨u, h3, h4⟩ := h.get h1
  rw [h2] at h3; cases h3
  exact h4
theorem RepL.drop {ds : List D} {xs : List V} (n : Nat) (h : RepL K H Z ds xs) : RepL K H Z (ds.drop n) (xs.drop n) := by
  refine RepL.of_get (by simp [h.length]) fun i d v h1 h2 => ?_
  rw [List.getElem?_drop] at h1 h2
  obtain ⟨u, h3, h4⟩ := h.get h1
  rw [h2] at h3; cases h3
  exact h4
theorem RepL.reverse {ds : List D} {xs : List V} (h : RepL K H Z ds xs) : RepL K H Z ds.reverse xs.reverse := by
  have hl := h.length
  refine RepL.of_get (by simp [hl]) fun i d v h1 h2 => ?_
  have hi : i < ds.length := by
    have := (List.getElem?_eq_some_iff.mp h1).1
    simpa using this
  rw [List.getElem?_reverse hi] at h1
  rw [List.getElem?_reverse (by omega), hl] at h2
  obtain ⟨u, h3, h4⟩ := h.get h1
  rw [h2] at h3; cases h3
  exact h4
theorem RepL.set {ds : List D} {xs : List V} {d : D} {v : V} (h : RepL K H Z ds xs) (i : Nat) (r : Rep K H Z d v) : RepL K H Z (ds.set i d) (xs.set i v) := by
  have hl := h.length
  refine RepL.of_get (by simp [hl]) fun j e u h1 h2 => ?_
  by_cases hj : i = j
  · subst hj
    have : i < ds.length := by
      have := (List.getElem?_eq_some_iff.mp h1).1
      simpa using this
    rw [List.getElem?_set_self this] at h1
    rw [List.getElem?_set_self (by omega)] at h2
    cases h1; cases h2
    exact r
  · rw [List.getElem?_set_ne hj] at h1 h2
    obtain ⟨w, h3, h4⟩ := h.get h1
    rw [h2] at h3; cases h3
    exact h4
theorem RepL.ints : ∀ {ns : List Int} {xs : List V}, RepL K H Z (ns.map D.int) xs → xs = ns.map V.int
  | [], _, h => by simpa [RepL] using h
  | n :: ns, _, h => by
    simp only [List.map_cons, RepL, Rep] at h
    obtain ⟨v, r, e, h1, h2⟩ := h
    rw [e, h1, RepL.ints h2]; rfl
theorem RepL.bls : ∀ {ns : List Bool} {xs : List V}, RepL K H Z (ns.map D.bl) xs → xs = ns.map V.bl
  | [], _, h => by simpa [RepL] using h
  | n :: ns, _, h => by
    simp only [List.map_cons, RepL, Rep] at h
    obtain ⟨v, r, e, h1, h2⟩ := h
    rw [e, h1, RepL.bls h2]; rfl
theorem RepL.strs : ∀ {ns : List (List Nat)} {xs : List V}, RepL K H Z (ns.map D.str) xs → xs = ns.map (fun s => V.str (mkS s))
  | [], _, h => by simpa [RepL] using h
  | n :: ns, _, h => by
    simp only [List.map_cons, RepL, Rep] at h
    obtain ⟨v, r, e, h1, h2⟩ := h
    rw [e, h1, RepL.strs h2]; rfl
theorem RepL.of_ints : ∀ (ns : List Int), RepL K H Z (ns.map D.int) (ns.map V.int)
  | [] => by simp [RepL]
  | n :: ns => by
    simp only [List.map_cons, RepL, Rep]
    exact ⟨_, _, rfl, rfl, RepL.of_ints ns⟩
theorem RepL.of_bls : ∀ (ns : List Bool), RepL K H Z (ns.map D.bl) (ns.map V.bl)
  | [] => by simp [RepL]
  | n :: ns => by
    simp only [List.map_cons, RepL, Rep]
    exact ⟨_, _, rfl, rfl, RepL.of_bls ns⟩
theorem RepL.of_strs : ∀ (ns : List (List Nat)), RepL K H Z (ns.map D.str) (ns.map (fun s => V.str (mkS s)))
  | [] => by simp [RepL]
  | n :: ns => by
    simp only [List.map_cons, RepL, Rep]
    exact ⟨_, _, rfl, rfl, RepL.of_strs ns⟩
end

/-! ### environments -/
/-- a slot: not known; or its data, and whether its list or dict is the frame's own -/
abbrev Rho := List (Option (Bool × D))
structure EnvOk (K : Fr) (H : Hp) (Z : Addr → Prop) (ρ : Rho) (σ : Pi.St) (FP : Nat → List Addr) : Prop where
  len : ρ.length = σ.length
  fz : ∀ (i : Nat) (d : D), ρ[i]? = some (some (false, d)) → ∃ v, σ[i]? = some (some v) ∧ Rep K H Z d v
  ow : ∀ (i : Nat) (d : D), ρ[i]? = some (some (true, d)) → ∃ v, σ[i]? = some (some v) ∧ Own K H Z d (FP i) v
  emp : ∀ (i : Nat) (a : Addr), a ∈ FP i → ∃ d, ρ[i]? = some (some (true, d))
  zd : ∀ a, Z a → H a ≠ none
  dis : ∀ (i j : Nat) (a : Addr), a ∈ FP i → a ∈ FP j → i = j

section
variable {K : Fr} {H H' H'' : Hp} {Z Z' Z'' : Addr → Prop} {ρ : Rho} {σ : Pi.St} {FP : Nat → List Addr}
theorem EnvOk.dom (e : EnvOk K H Z ρ σ FP) {i : Nat} {a : Addr} (h : a ∈ FP i) : ¬ Z a ∧ ∃ u, H a = some u ∧ Cont u := by
  obtain ⟨d, hd⟩ := e.emp i a h
  obtain ⟨v, _, o⟩ := e.ow i d hd
  exact Own.dom d _ v o a h
theorem EnvOk.kp (e : EnvOk K H Z ρ σ FP) (k : Kp K Z H H') (z : ∀ a, Z a → Z' a) (zd : ∀ a, Z' a → H' a ≠ none) (hF : ∀ i, ∀ a ∈ FP i, H' a = H a) (hZ : ∀ i, ∀ a ∈ FP i, ¬ Z' a) : EnvOk K H' Z' ρ σ FP :=
  ⟨e.len, fun i d h => let ⟨v, h1, h2⟩ := e.fz i d h; ⟨v, h1, Rep.kp k z _ _ h2⟩, fun i d h => let ⟨v, h1, h2⟩ := e.ow i d h; ⟨v, h1, Own.kp k z _ _ _ (hF i) (hZ i) h2⟩, e.emp, zd, e.dis⟩
end

/-- what a computation without writing leaves: all that stood stands, what is newly frozen is new -/
structure Ext (H : Hp) (Z : Addr → Prop) (H' : Hp) (Z' : Addr → Prop) : Prop where
  same : Same H H'
  z : ∀ a, Z a → Z' a
  zn : ∀ a, Z' a → Z a ∨ (H a = none ∧ H' a ≠ none)
section
variable {K : Fr} {H H' H'' : Hp} {Z Z' Z'' : Addr → Prop} {ρ : Rho} {σ : Pi.St} {FP : Nat → List Addr}
theorem Ext.refl : Ext H Z H Z := ⟨Same.refl H, fun _ h => h, fun _ h => .inl h⟩
theorem Ext.trans (a : Ext H Z H' Z') (b : Ext H' Z' H'' Z'') : Ext H Z H'' Z'' :=
  ⟨a.same.trans b.same, fun x h => b.z x (a.z x h), fun x h => (b.zn x h).elim (fun q => (a.zn x q).elim .inl fun q => .inr ⟨q.1, fun z => q.2 (b.same.free z)⟩) fun q => .inr ⟨a.same.free q.1, q.2⟩⟩
theorem Ext.kp (e : Ext H Z H' Z') : Kp K Z H H' := .of_same e.same
theorem Ext.rep (e : Ext H Z H' Z') {d : D} {v : V} (h : Rep K H Z d v) : Rep K H' Z' d v := Rep.kp e.kp e.z d v h
theorem Ext.repL (e : Ext H Z H' Z') {d : List D} {v : List V} (h : RepL K H Z d v) : RepL K H' Z' d v := RepL.kp e.kp e.z d v h
theorem Ext.own (e : Ext H Z H' Z') {d : D} {F : List Addr} {v : V} (h : Own K H Z d F v) : Own K H' Z' d F v := by
  have dm := Own.dom d F v h
  refine Own.kp e.kp e.z d F v (fun a ha => ?_) (fun a ha q => ?_) h
  · obtain ⟨_, u, hu, _⟩ := dm a ha
    rw [hu, e.same a u hu]
  · obtain ⟨nz, u, hu, _⟩ := dm a ha
    rcases e.zn a q with q | q
    · exact nz q
    · rw [hu] at q; cases q.1
theorem Ext.env (e : Ext H Z H' Z') (h : EnvOk K H Z ρ σ FP) : EnvOk K H' Z' ρ σ FP := by
  refine h.kp e.kp e.z (fun a q => ?_) (fun i a ha => ?_) (fun i a ha q => ?_)
  · rcases e.zn a q with q | q
    · exact fun z => h.zd a q (e.same.free z)
    · exact q.2
  · obtain ⟨_, u, hu, _⟩ := h.dom ha
    rw [hu, e.same a u hu]
  · obtain ⟨nz, u, hu, _⟩ := h.dom ha
    rcases e.zn a q with q | q
    · exact nz q
    · rw [hu] at q; cases q.1
/-- a new thing at p -/
theorem Ext.new {p : Addr} {o : HO} (hp : H p = none) : Ext H Z (upd H p o) Z :=
  ⟨fun b u h => by rw [upd_ne (ne_of_none h hp)]; exact h, fun _ h => h, fun _ h => .inl h⟩
theorem Ext.newZ {p : Addr} {o : HO} (hp : H p = none) : Ext H Z (upd H p o) (fun a => Z a ∨ a = p) :=
  ⟨fun b u h => by rw [upd_ne (ne_of_none h hp)]; exact h, fun _ h => .inl h, fun a h => h.elim .inl fun e => .inr ⟨e ▸ hp, fun z => by rw [e, upd_same] at z; cases z⟩⟩
end

/-! ### results -/
inductive Res (α : Type) where
  | ok (a : α) | er (c : Str) (p : D) | st
@[inline] def Res.bind {α β : Type} (r : Res α) (f : α → Res β) : Res β := match r with
  | .ok a => f a
  | .er c p => .er c p
  | .st => .st
instance : Monad Res where
  pure := .ok
  bind := Res.bind
theorem res_pure {α : Type} (a : α) : (pure a : Res α) = .ok a := rfl
theorem res_bind_ok {α β : Type} (a : α) (f : α → Res β) : (Res.ok a >>= f) = f a := rfl
theorem res_bind_er {α β : Type} (c : Str) (p : D) (f : α → Res β) : ((Res.er c p : Res α) >>= f) = .er c p := rfl
theorem res_bind_st {α β : Type} (f : α → Res β) : ((Res.st : Res α) >>= f) = .st := rfl
/-- frozen; own and new; a part of the environment -/
inductive Mo where
  | fz | ow | bo
  deriving DecidableEq
/-- what came of a computation from H -/
def ResOk (K : Fr) (H H' : Hp) (Z' : Addr → Prop) (FP : Nat → List Addr) (m : Mo) (d : D) (v : V) : Prop := match m with
  | .fz => Rep K H' Z' d v
  | .ow => ∃ G, Own K H' Z' d G v ∧ ∀ a ∈ G, H a = none
  | .bo => ∃ G, Own K H' Z' d G v ∧ ∀ a ∈ G, ∃ i, a ∈ FP i
section
variable {K : Fr} {H H' H'' : Hp} {Z Z' Z'' : Addr → Prop} {ρ : Rho} {σ : Pi.St} {FP : Nat → List Addr} {m : Mo} {d : D} {v : V}
theorem ResOk.ext (e : Ext H' Z' H'' Z'') (h : ResOk K H H' Z' FP m d v) : ResOk K H H'' Z'' FP m d v := by
  cases m with
  | fz => exact e.rep h
  | ow => obtain ⟨G, h1, h2⟩ := h; exact ⟨G, e.own h1, h2⟩
  | bo => obtain ⟨G, h1, h2⟩ := h; exact ⟨G, e.own h1, h2⟩
theorem ResOk.back (s : Same H H') (h : ResOk K H' H'' Z'' FP m d v) : ResOk K H H'' Z'' FP m d v := by
  cases m with
  | fz => exact h
  | ow => obtain ⟨G, h1, h2⟩ := h; exact ⟨G, h1, fun a ha => s.free (h2 a ha)⟩
  | bo => exact h
/-- read: all that it has may be read -/
abbrev All : Addr → Prop := fun _ => True
theorem ResOk.read (h : ResOk K H H' Z' FP m d v) : Rep K H' All d v := by
  cases m with
  | fz => exact Rep.kp .refl (fun _ _ => trivial) _ _ h
  | ow => obtain ⟨G, h1, h2⟩ := h; exact Own.rep (fun _ _ => trivial) d G v (fun _ _ => trivial) h1
  | bo => obtain ⟨G, h1, h2⟩ := h; exact Own.rep (fun _ _ => trivial) d G v (fun _ _ => trivial) h1
theorem ResOk.atom (ha : d.atom = true) (h : ResOk K H H' Z' FP m d v) : Rep K H' Z' d v := by
  cases m with
  | fz => exact h
  | ow => obtain ⟨G, h1, h2⟩ := h; exact ((own_atom ha).mp h1).2
  | bo => obtain ⟨G, h1, h2⟩ := h; exact ((own_atom ha).mp h1).2
end
end Pi

set_option Elab.async false
set_option linter.all false
set_option maxRecDepth 100000
set_option maxHeartbeats 4000000
/-! Pi2: computations as readings. -/
namespace Pi
open PySem PySem.Spec PyProof.Rows L2

def clsV (X : Cx) (c : Str) : Value := (X.mg c).getD .none
/-- what is wanted of a computation -/
def Out (X : Cx) (W : WX) (H : Hp) (Z : Addr → Prop) (σ : Pi.St) {α : Type} (R : α → Hp → (Addr → Prop) → Prop) : Res α → Prop
  | .ok a => ∀ H' Z', Ext H Z H' Z' → R a H' Z'
  | .er c _ => ∀ H' Z', Ext H Z H' Z' → W (clsV X c) none σ H'
  | .st => False
section
variable {X : Cx} {W : WX} {H H1 : Hp} {Z Z1 : Addr → Prop} {σ : Pi.St} {α β : Type}
theorem Out.step {R : α → Hp → (Addr → Prop) → Prop} {r : Res α} (h : Out X W H Z σ R r) (e : Ext H Z H1 Z1) : Out X W H1 Z1 σ R r := by
  cases r with
  | ok a => exact fun H' Z' e' => h H' Z' (e.trans e')
  | er c p => exact fun H' Z' e' => h H' Z' (e.trans e')
  | st => exact h
theorem Out.imp {R R' : α → Hp → (Addr → Prop) → Prop} {r : Res α} (h : Out X W H Z σ R r) (w : ∀ a H' Z', Ext H Z H' Z' → R a H' Z' → R' a H' Z') : Out X W H Z σ R' r := by
  cases r with
  | ok a => exact fun H' Z' e' => w a H' Z' e' (h H' Z' e')
  | er c p => exact h
  | st => exact h
theorem Out.bind {R : β → Hp → (Addr → Prop) → Prop} {R1 : α → Hp → (Addr → Prop) → Prop} {r : Res α} {k : α → Res β} (h : Out X W H Z σ R (r >>= k))
    (c : ∀ a H1 Z1, r = .ok a → Ext H Z H1 Z1 → Out X W H1 Z1 σ R (k a) → R1 a H1 Z1) : Out X W H Z σ R1 r := by
  cases r with
  | ok a => exact fun H' Z' e' => c a H' Z' rfl e' (Out.step (show Out X W H Z σ R (k a) from h) e')
  | er c p => exact h
  | st => exact h
end

/-! ### expressions, tests, argument lists, walks -/
/-- what came of an argument list: G the new places, in order -/
def ResL (K : Fr) (H H' : Hp) (Z' : Addr → Prop) (FP : Nat → List Addr) : List (Mo × D) → List Addr → List V → Prop
  | [], G, vs => G = [] ∧ vs = []
  | (m, d) :: r, G, vs => ∃ v vs' G1 G2, vs = v :: vs' ∧ G = G1 ++ G2 ∧ (∀ a ∈ G1, a ∉ G2) ∧
      (match m with
        | .fz => G1 = [] ∧ Rep K H' Z' d v
        | .ow => Own K H' Z' d G1 v ∧ ∀ a ∈ G1, H a = none
        | .bo => G1 = [] ∧ ∃ F, Own K H' Z' d F v ∧ ∀ a ∈ F, ∃ i, a ∈ FP i) ∧ ResL K H H' Z' FP r G2 vs'
def GE (X : Cx) (W : WX) (f : Rho → Res (Mo × D)) : TE := fun σ H Q => ∃ ρ Z FP, EnvOk X.fr H Z ρ σ FP ∧ Out X W H Z σ (fun (r : Mo × D) H' Z' => ∀ v, ResOk X.fr H H' Z' FP r.1 r.2 v → Q v H') (f ρ)
def GT (X : Cx) (W : WX) (f : Rho → Res Bool) : TT := fun σ H Q => ∃ ρ Z FP, EnvOk X.fr H Z ρ σ FP ∧ Out X W H Z σ (fun (r : Bool) H' _ => Q r H') (f ρ)
def GA (X : Cx) (W : WX) (f : Rho → Res (List (Mo × D))) : TA := fun σ H Q => ∃ ρ Z FP, EnvOk X.fr H Z ρ σ FP ∧ Out X W H Z σ (fun (r : List (Mo × D)) H' Z' => ∀ G vs, ResL X.fr H H' Z' FP r G vs → Q vs H') (f ρ)
section
variable {X : Cx} {W : WX} {H : Hp} {Z : Addr → Prop} {σ : Pi.St} {ρ : Rho} {FP : Nat → List Addr} {α β : Type}
theorem GE.bind {f : Rho → Res (Mo × D)} {k : Mo × D → Res β} {R : β → Hp → (Addr → Prop) → Prop} {Q : VK} (e : EnvOk X.fr H Z ρ σ FP) (h : Out X W H Z σ R (f ρ >>= k))
    (c : ∀ m d v H1 Z1, Ext H Z H1 Z1 → ResOk X.fr H H1 Z1 FP m d v → EnvOk X.fr H1 Z1 ρ σ FP → Out X W H1 Z1 σ R (k (m, d)) → Q v H1) : GE X W f σ H Q :=
  ⟨ρ, Z, FP, e, Out.bind h fun a H1 Z1 _ e1 h1 v r => c a.1 a.2 v H1 Z1 e1 r (e1.env e) h1⟩
theorem GT.bind {f : Rho → Res Bool} {k : Bool → Res β} {R : β → Hp → (Addr → Prop) → Prop} {Q : Bool → Hp → Prop} (e : EnvOk X.fr H Z ρ σ FP) (h : Out X W H Z σ R (f ρ >>= k))
    (c : ∀ b H1 Z1, Ext H Z H1 Z1 → EnvOk X.fr H1 Z1 ρ σ FP → Out X W H1 Z1 σ R (k b) → Q b H1) : GT X W f σ H Q :=
  ⟨ρ, Z, FP, e, Out.bind h fun a H1 Z1 _ e1 h1 => c a H1 Z1 e1 (e1.env e) h1⟩
theorem GA.bind {f : Rho → Res (List (Mo × D))} {k : List (Mo × D) → Res β} {R : β → Hp → (Addr → Prop) → Prop} {Q : List V → Hp → Prop} (e : EnvOk X.fr H Z ρ σ FP) (h : Out X W H Z σ R (f ρ >>= k))
    (c : ∀ as G vs H1 Z1, Ext H Z H1 Z1 → ResL X.fr H H1 Z1 FP as G vs → EnvOk X.fr H1 Z1 ρ σ FP → Out X W H1 Z1 σ R (k as) → Q vs H1) : GA X W f σ H Q :=
  ⟨ρ, Z, FP, e, Out.bind h fun a H1 Z1 _ e1 h1 G vs r => c a G vs H1 Z1 e1 r (e1.env e) h1⟩
theorem PE.imp {e : Expr} {t t' : TE} (h : PE X e t) (w : ∀ σ H Q, t' σ H Q → t σ H Q) : PE X e t' := ⟨fun pins s σ H Q I q => h.run pins s σ H Q I (w σ H Q q)⟩
theorem PT.imp {e : Expr} {t t' : TT} (h : PT X e t) (w : ∀ σ H Q, t' σ H Q → t σ H Q) : PT X e t' := ⟨fun pins s σ H Q I q => h.run pins s σ H Q I (w σ H Q q)⟩
theorem PA.imp {e : List Expr} {t t' : TA} (h : PA X e t) (w : ∀ σ H Q, t' σ H Q → t σ H Q) : PA X e t' := ⟨fun pos pins s σ H Q I q => h.run pos pins s σ H Q I (w σ H Q q)⟩
theorem PS.imp {e : Stmt} {t t' : TS} (h : PS X e t) (w : ∀ D σ H, t' D σ H → t D σ H) : PS X e t' := ⟨fun pins s σ H D I q => h.run pins s σ H D I (w D σ H q)⟩
theorem PSs.imp {e : List Stmt} {t t' : TS} (h : PSs X e t) (w : ∀ D σ H, t' D σ H → t D σ H) : PSs X e t' := ⟨fun pins s σ H D I q => h.run pins s σ H D I (w D σ H q)⟩
theorem PI.imp {g e : Expr} {t t' : TI} (h : PI X g e t) (w : ∀ σ H Q, t' σ H Q → t σ H Q) : PI X g e t' := ⟨fun pins s σ H Q I q => h.run pins s σ H Q I (w σ H Q q)⟩

/-! ### a value that is reckoned -/
/-- behind an operation: v is d (no list, no dict), nothing was made -/
theorem fin_atom {H1 : Hp} {Z1 : Addr → Prop} {Q : VK} {d : D} {v : V} (h : Out X W H1 Z1 σ (fun (r : Mo × D) H' Z' => ∀ v, ResOk X.fr H H' Z' FP r.1 r.2 v → Q v H') (.ok (.fz, d))) (r : Rep X.fr H1 Z1 d v) : Q v H1 :=
  h H1 Z1 .refl v r
end

/-! ### operations on two values -/
section
variable {X : Cx} {W : WX} {H : Hp} {Z : Addr → Prop} {σ : Pi.St} {ρ : Rho} {FP : Nat → List Addr}
/-- r serves g -/
def Op2 (X : Cx) (r : R2) (g : Mo × D → Mo × D → Res (Mo × D)) : Prop :=
  ∀ (W : WX) (σ : Pi.St) (FP : Nat → List Addr) (H0 H : Hp) (Z : Addr → Prop) (Q : VK) (a b : Mo × D) (x y : V), Same H0 H → (∀ a, Z a → H a ≠ none) → ResOk X.fr H0 H Z FP a.1 a.2 x → ResOk X.fr H0 H Z FP b.1 b.2 y →
    Out X W H Z σ (fun (r : Mo × D) H' Z' => ∀ v, ResOk X.fr H0 H' Z' FP r.1 r.2 v → Q v H') (g a b) → (∀ c p, g a b ≠ .er c p) → r x y H Q
theorem bin_sound {r : R2} {g : Mo × D → Mo × D → Res (Mo × D)} {fa fb : Rho → Res (Mo × D)} (h : Op2 X r g) (hn : ∀ a b c p, g a b ≠ .er c p) (σ : Pi.St) (H : Hp) (Q : VK)
    (q : GE X W (fun ρ => fa ρ >>= fun a => fb ρ >>= fun b => g a b) σ H Q) : tOp r (GE X W fa) (GE X W fb) σ H Q := by
  obtain ⟨ρ, Z, FP, e, o⟩ := q
  refine GE.bind e o fun m d v H1 Z1 x1 r1 e1 o1 => ?_
  refine GE.bind e1 o1 fun m2 d2 v2 H2 Z2 x2 r2 e2 o2 => ?_
  exact h W σ FP H H2 Z2 Q (m, d) (m2, d2) v v2 (x1.trans x2).same e2.zd (r1.ext x2) (r2.back x1.same) o2 (hn _ _)
end

/-- a total operation, or stuck -/
@[reducible] def op2 (g : Mo × D → Mo × D → Option (Mo × D)) : Mo × D → Mo × D → Res (Mo × D) := fun a b => match g a b with
  | some r => .ok r
  | none => .st
theorem op2_ne {g : Mo × D → Mo × D → Option (Mo × D)} (a b : Mo × D) (c : Str) (p : D) : op2 g a b ≠ .er c p := by
  unfold op2
  split <;> exact fun h => nomatch h
/-- on atoms -/
@[reducible] def at2 (g : D → D → Option D) : Mo × D → Mo × D → Option (Mo × D) := fun a b => match g a.2 b.2 with
  | some d => if a.2.atom && b.2.atom && d.atom then some (.fz, d) else none
  | none => none

section
variable {X : Cx}
theorem Op2.of {r : R2} {g : Mo × D → Mo × D → Option (Mo × D)}
    (h : ∀ (FP : Nat → List Addr) (H0 H : Hp) (Z : Addr → Prop) (Q : VK) (a b c : Mo × D) (x y : V), Same H0 H → (∀ a, Z a → H a ≠ none) → ResOk X.fr H0 H Z FP a.1 a.2 x → ResOk X.fr H0 H Z FP b.1 b.2 y → g a b = some c →
      (∀ v H' Z', Ext H Z H' Z' → ResOk X.fr H0 H' Z' FP c.1 c.2 v → Q v H') → r x y H Q) : Op2 X r (op2 g) := by
  intro W σ FP H0 H Z Q a b x y s zd r1 r2 o hn
  unfold op2 at o
  cases e : g a b with
  | none => rw [e] at o; exact o.elim
  | some c =>
    rw [e] at o
    exact h FP H0 H Z Q a b c x y s zd r1 r2 e fun v H' Z' x r => o H' Z' x v r
theorem Op2.at {r : R2} {g : D → D → Option D}
    (h : ∀ (H : Hp) (Z : Addr → Prop) (Q : VK) (a b c : D) (x y : V), Rep X.fr H Z a x → Rep X.fr H Z b y → g a b = some c → (∀ v, Rep X.fr H Z c v → Q v H) → r x y H Q) : Op2 X r (op2 (at2 g)) := by
  refine Op2.of fun FP H0 H Z Q a b c x y s zd r1 r2 e q => ?_
  unfold at2 at e
  cases e1 : g a.2 b.2 with
  | none => rw [e1] at e; cases e
  | some d =>
    rw [e1] at e
    simp only at e
    split at e
    · rename_i ha
      simp only [Bool.and_eq_true] at ha
      cases e
      exact h H Z Q a.2 b.2 d x y (r1.atom ha.1.1) (r2.atom ha.1.2) e1 fun v r => q v H Z .refl r
    · cases e
theorem OpR.imp {f : Value → Value → Sem Value} {r r' : R2} (h : OpR X f r) (w : ∀ x y H Q, r' x y H Q → r x y H Q) : OpR X f r' := fun pins s σ H x y v u Q I rx ry q => h pins s σ H x y v u Q I rx ry (w x y H Q q)
end

/-! ### numbers -/
def subG : D → D → Option D
  | .int i, .int j => some (.int (i - j))
  | _, _ => none
def mulOk (i j : Int) : Bool := decide (i.natAbs.log2 + j.natAbs.log2 < 1000000) || (decide (-(2 ^ 64) < i) && decide (i < 2 ^ 64)) || (decide (-(2 ^ 64) < j) && decide (j < 2 ^ 64))
def fdivG : D → D → Option D
  | .int i, .int j => if 0 < j ∧ j.natAbs.log2 < 9000 then some (.int (i / j)) else none
  | _, _ => none
def modG : D → D → Option D
  | .int i, .int j => if 0 < j then some (.int (i % j)) else none
  | _, _ => none
def powG : D → D → Option D
  | .int i, .int j => if 0 ≤ j ∧ j ≤ 1000000 ∧ i.natAbs < 2 ^ 64 then some (.int (i ^ j.toNat)) else none
  | _, _ => none
section
variable {X : Cx}
theorem sub_ok : Op2 X (rI0 fun i j => .int (i - j)) (op2 (at2 subG)) := Op2.at fun H Z Q a b c x y r1 r2 e q => by
  unfold subG at e
  split at e <;> cases e
  simp only [Rep] at r1 r2 q
  exact ⟨_, _, r1, r2, q _ rfl⟩
theorem fdiv_ok : Op2 X (rI CDivW fun i j => .int (i / j)) (op2 (at2 fdivG)) := Op2.at fun H Z Q a b c x y r1 r2 e q => by
  unfold fdivG at e
  split at e <;> try (cases e; done)
  split at e <;> cases e
  rename_i h
  simp only [Rep] at r1 r2 q
  exact ⟨_, _, r1, r2, h, q _ rfl⟩
theorem mod_ok : Op2 X (rI (fun _ j => 0 < j) fun i j => .int (i % j)) (op2 (at2 modG)) := Op2.at fun H Z Q a b c x y r1 r2 e q => by
  unfold modG at e
  split at e <;> try (cases e; done)
  split at e <;> cases e
  rename_i h
  simp only [Rep] at r1 r2 q
  exact ⟨_, _, r1, r2, h, q _ rfl⟩
theorem pow_ok : Op2 X (rI CPow fun i j => .int (i ^ j.toNat)) (op2 (at2 powG)) := Op2.at fun H Z Q a b c x y r1 r2 e q => by
  unfold powG at e
  split at e <;> try (cases e; done)
  split at e <;> cases e
  rename_i h
  simp only [Rep] at r1 r2 q
  exact ⟨_, _, r1, r2, h, q _ rfl⟩
end

/-! ### new lists -/
/-- the mode of a list of these that is made -/
def lmo (ds : List D) : Mo := if ds.all D.atom then .ow else .fz
/-- its items may stand in another list -/
def elOk (m : Mo) (ds : List D) : Bool := decide (m = .fz) || ds.all D.atom
section
variable {K : Fr} {H H' H0 : Hp} {Z Z' : Addr → Prop} {FP : Nat → List Addr} {ds : List D} {xs : List V} {p : Addr}
theorem ownL_atoms : ∀ {ds : List D} {xs : List V}, ds.all D.atom = true → RepL K H Z ds xs → OwnL K H Z ds [] xs
  | [], _, _, h => by simp only [RepL] at h; simp only [OwnL]; exact ⟨trivial, h⟩
  | d :: ds, _, ha, h => by
    simp only [List.all_cons, Bool.and_eq_true] at ha
    simp only [RepL] at h
    simp only [OwnL]
    obtain ⟨v, r, e, h1, h2⟩ := h
    exact ⟨v, r, [], [], e, rfl, by simp, (own_atom ha.1).mpr ⟨rfl, h1⟩, ownL_atoms ha.2 h2⟩
theorem atoms_ownL : ∀ {ds : List D} {xs : List V} {F : List Addr}, ds.all D.atom = true → OwnL K H Z ds F xs → F = [] ∧ RepL K H Z ds xs
  | [], _, _, _, h => by simp only [OwnL] at h; simp only [RepL]; exact h
  | d :: ds, _, _, ha, h => by
    simp only [List.all_cons, Bool.and_eq_true] at ha
    simp only [OwnL] at h
    simp only [RepL]
    obtain ⟨v, r, F1, F2, e, eF, _, h1, h2⟩ := h
    obtain ⟨e1, h3⟩ := (own_atom ha.1).mp h1
    obtain ⟨e2, h4⟩ := atoms_ownL ha.2 h2
    exact ⟨by rw [eF, e1, e2]; rfl, v, r, e, h3, h4⟩
theorem new_lst (zd : ∀ a, Z a → H a ≠ none) (s : Same H0 H) (hp : H p = none) (r : RepL K H Z ds xs) :
    ∃ Z', Ext H Z (upd H p (.lst xs)) Z' ∧ ResOk K H0 (upd H p (.lst xs)) Z' FP (lmo ds) (.lst ds) (.ref p) := by
  unfold lmo
  by_cases ha : ds.all D.atom = true
  · rw [if_pos ha]
    refine ⟨Z, .new hp, [p], ?_, fun a h => ?_⟩
    · simp only [Own]
      exact ⟨p, xs, [], rfl, rfl, upd_same, fun z => zd p z hp, by simp, ownL_atoms ha ((Ext.new hp).repL r)⟩
    · have e : a = p := by simpa using h
      rw [e]; exact s.free hp
  · rw [if_neg ha]
    refine ⟨_, .newZ hp, ?_⟩
    show Rep _ _ _ _ _
    simp only [Rep]
    exact ⟨p, xs, rfl, upd_same, .inr rfl, (Ext.newZ hp).repL r⟩
/-- a list's items -/
theorem ResOk.items {m : Mo} {v : V} (h : ResOk K H0 H Z FP m (.lst ds) v) (e : elOk m ds = true) : ∃ a xs, v = .ref a ∧ H a = some (.lst xs) ∧ RepL K H Z ds xs := by
  have key : ∀ G, Own K H Z (.lst ds) G v → ds.all D.atom = true → ∃ a xs, v = .ref a ∧ H a = some (.lst xs) ∧ RepL K H Z ds xs := fun G o ha => by
    simp only [Own] at o
    obtain ⟨a, xs, G', e, _, q, _, _, r⟩ := o
    exact ⟨a, xs, e, q, (atoms_ownL ha r).2⟩
  unfold elOk at e
  rw [Bool.or_eq_true, decide_eq_true_eq] at e
  cases m with
  | fz =>
    have h : Rep K H Z (.lst ds) v := h
    simp only [Rep] at h
    obtain ⟨a, xs, e, q, _, r⟩ := h
    exact ⟨a, xs, e, q, r⟩
  | ow =>
    obtain ⟨G, o, _⟩ := h
    exact key G o (e.resolve_left (fun z => by cases z))
  | bo =>
    obtain ⟨G, o, _⟩ := h
    exact key G o (e.resolve_left (fun z => by cases z))
end
/-! ### + and * -/
def addG (a b : Mo × D) : Option (Mo × D) := match a.2, b.2 with
  | .int i, .int j => some (.fz, .int (i + j))
  | .str s, .str t => if s.length + t.length ≤ sizeLine then some (.fz, .str (s ++ t)) else none
  | .tup s, .tup t => if s.length + t.length ≤ sizeLine then some (.fz, .tup (s ++ t)) else none
  | .lst s, .lst t => if s.length + t.length ≤ sizeLine ∧ elOk a.1 s = true ∧ elOk b.1 t = true then some (lmo (s ++ t), .lst (s ++ t)) else none
  | _, _ => none
theorem mkS_append (s t : List Nat) : mkS s ++ mkS t = mkS (s ++ t) := by
  show Str.append _ _ = _
  simp [mkS, Str.append]
theorem mkS_length (s : List Nat) : (mkS s).length = s.length := by simp [mkS, Str.length]
def rAdd (K : PySem.W.Frag) : R2 := fun x y H Q => (rI0 fun i j => .int (i + j)) x y H Q ∨ (∃ i j, x = .str i ∧ y = .str j ∧ i.length + j.length ≤ sizeLine ∧ Q (.str (i ++ j)) H) ∨ rCatA K x y H Q ∨ rCat x y H Q
section
variable {X : Cx}
theorem op_addAll : OpR X (binaryOp .Add) (rAdd X.K) := OpR.or op_add (OpR.or op_add_str (OpR.or op_catA op_cat))
theorem tup_rep {K : Fr} {H : Hp} {Z : Addr → Prop} {ds : List D} {v : V} (h : Rep K H Z (.tup ds) v) : ∃ a xs, v = .ref a ∧ SqT K.K H a xs ∧ RepL K H Z ds xs := by
  simp only [Rep] at h; exact h
/-- a new tuple -/
theorem new_tup {K : Fr} {H : Hp} {Z : Addr → Prop} {ds : List D} {xs : List V} {p : Addr} (hp : H p = none) (r : RepL K H Z ds xs) : Ext H Z (upd H p (.tup xs)) Z ∧ Rep K (upd H p (.tup xs)) Z (.tup ds) (.ref p) := by
  refine ⟨.new hp, ?_⟩
  simp only [Rep]
  exact ⟨p, xs, rfl, SqT.of upd_same, (Ext.new hp).repL r⟩
theorem add_ok : Op2 X (rAdd X.K) (op2 addG) := Op2.of fun FP H0 H Z Q a b c x y s zd r1 r2 e q => by
  obtain ⟨m1, d1⟩ := a
  obtain ⟨m2, d2⟩ := b
  unfold addG at e
  split at e
  · cases e
    rename_i h1 h2
    simp only at h1 h2
    subst h1 h2
    have r1 := r1.atom rfl
    have r2 := r2.atom rfl
    simp only [Rep] at r1 r2
    exact .inl ⟨_, _, r1, r2, q _ H Z .refl (by show Rep _ _ _ _ _; simp only [Rep])⟩
  · rename_i h1 h2
    split at e <;> cases e
    rename_i hl
    simp only at h1 h2
    subst h1 h2
    have r1 := r1.atom rfl
    have r2 := r2.atom rfl
    simp only [Rep] at r1 r2
    refine .inr (.inl ⟨_, _, r1, r2, by rw [mkS_length, mkS_length]; exact hl, q _ H Z .refl (by show Rep _ _ _ _ _; simp only [Rep, mkS_append])⟩)
  · rename_i s' t' h1 h2
    split at e <;> cases e
    rename_i hl
    simp only at h1 h2
    subst h1 h2
    obtain ⟨a, xs, e1, q1, l1⟩ := tup_rep (r1.atom rfl)
    obtain ⟨b, ys, e2, q2, l2⟩ := tup_rep (r2.atom rfl)
    refine .inr (.inr (.inl ⟨a, b, xs, ys, e1, e2, q1, q2, by rw [l1.length, l2.length]; exact hl, fun z => ?_, fun z z2 => ?_, fun _ _ p hp => ?_⟩))
    · refine q _ H Z .refl ?_
      subst z
      have e0 : s' = [] := List.eq_nil_of_length_eq_zero l1.length.symm
      subst e0
      show Rep _ _ _ _ _
      simp only [Rep, List.nil_append]
      exact ⟨b, ys, rfl, q2, l2⟩
    · refine q _ H Z .refl ?_
      subst z2
      have e0 : t' = [] := List.eq_nil_of_length_eq_zero l2.length.symm
      subst e0
      show Rep _ _ _ _ _
      simp only [Rep, List.append_nil]
      exact ⟨a, xs, rfl, q1, l1⟩
    · obtain ⟨x1, x2⟩ := new_tup hp (l1.append l2)
      exact q _ _ _ x1 x2
  · rename_i h1 h2
    split at e <;> cases e
    rename_i hl
    simp only at h1 h2 hl
    subst h1 h2
    obtain ⟨a, xs, e1, q1, l1⟩ := r1.items hl.2.1
    obtain ⟨b, ys, e2, q2, l2⟩ := r2.items hl.2.2
    refine .inr (.inr (.inr ⟨a, b, xs, ys, e1, e2, q1, q2, by rw [l1.length, l2.length]; exact hl.1, fun p hp => ?_⟩))
    obtain ⟨Z', x1, x2⟩ := new_lst (FP := FP) zd s hp (l1.append l2)
    exact q _ _ _ x1 x2
  · cases e
end
end Pi

set_option Elab.async false
set_option linter.all false
set_option maxRecDepth 100000
set_option maxHeartbeats 4000000
/-! Pi3: == , < , in, * on data. -/
namespace Pi
open PySem PySem.Spec PyProof.Rows L2

mutual
/-- as the kit's data -/
def toPy : D → Option PyData
  | .non => some .none
  | .bl b => some (.bool b)
  | .int i => some (.int i)
  | .str s => some (.str (mkS s))
  | .tup ds => (toPys ds).map .tuple
  | .lst ds => (toPys ds).map .list
  | .dic _ _ _ => none
  | .scr _ => none
def toPys : List D → Option (List PyData)
  | [] => some []
  | d :: r => (toPy d).bind fun p => (toPys r).map fun q => p :: q
end
section
variable {K : Fr} {H : Hp}
mutual
theorem toPy_dp : ∀ (d : D) (v : V) (p : PyData) {Z : Addr → Prop}, Rep K H Z d v → toPy d = some p → Dp K.K H v p
  | .non, _, _, _, h, e => by simp only [Rep] at h; simp only [toPy] at e; cases e; rw [h]; exact .non
  | .bl b, _, _, _, h, e => by simp only [Rep] at h; simp only [toPy] at e; cases e; rw [h]; exact .bl b
  | .int i, _, _, _, h, e => by simp only [Rep] at h; simp only [toPy] at e; cases e; rw [h]; exact .int i
  | .str s, _, _, _, h, e => by simp only [Rep] at h; simp only [toPy] at e; cases e; rw [h]; exact .str _
  | .tup ds, _, _, _, h, e => by
    simp only [Rep] at h
    simp only [toPy, Option.map_eq_some_iff] at e
    obtain ⟨a, xs, e1, q, r⟩ := h
    obtain ⟨ps, e2, e3⟩ := e
    subst e1 e3
    exact .tup q (toPys_dp ds xs ps r e2)
  | .lst ds, _, _, _, h, e => by
    simp only [Rep] at h
    simp only [toPy, Option.map_eq_some_iff] at e
    obtain ⟨a, xs, e1, q, _, r⟩ := h
    obtain ⟨ps, e2, e3⟩ := e
    subst e1 e3
    exact .lst (.inl (.inl q)) (toPys_dp ds xs ps r e2)
  | .dic _ _ _, _, _, _, _, e => by simp only [toPy] at e; cases e
  | .scr _, _, _, _, _, e => by simp only [toPy] at e; cases e
theorem toPys_dp : ∀ (ds : List D) (xs : List V) (ps : List PyData) {Z : Addr → Prop}, RepL K H Z ds xs → toPys ds = some ps → DpAll K.K H xs ps
  | [], _, _, _, h, e => by simp only [RepL] at h; simp only [toPys] at e; cases e; rw [h]; exact .nil
  | d :: ds, _, _, _, h, e => by
    simp only [RepL] at h
    simp only [toPys, Option.bind_eq_some_iff, Option.map_eq_some_iff] at e
    obtain ⟨v, r, e1, h1, h2⟩ := h
    obtain ⟨p, e2, q, e3, e4⟩ := e
    subst e1 e4
    exact .cons (toPy_dp d v p h1 e2) (toPys_dp ds r q h2 e3)
end
end
/-- with the signs and the depth that == wants -/
def toPyS (d : D) : Option PyData := (toPy d).bind fun p => if SeqAt.shaped p = true then some p else none
theorem toPyS_some {d : D} {p : PyData} (h : toPyS d = some p) : toPy d = some p ∧ SeqAt.shaped p = true := by
  unfold toPyS at h
  rw [Option.bind_eq_some_iff] at h
  obtain ⟨q, e, h⟩ := h
  split at h <;> cases h
  exact ⟨e, by assumption⟩

/-! ### == and != -/
def eqD (a b : D) : Option Bool := match a, b with
  | .int i, .int j => some (decide (i = j))
  | .str s, .str t => some (decide (s = t))
  | a, b => match toPyS a, toPyS b with
    | some p, some q => some (PyData.eqv p q)
    | _, _ => none
def blG (neg : Bool) (f : D → D → Option Bool) (a b : Mo × D) : Option (Mo × D) := (f a.2 b.2).map fun k => (.fz, .bl (if neg then !k else k))
section
variable {X : Cx}
theorem fz_bl {H0 H : Hp} {Z : Addr → Prop} {FP : Nat → List Addr} {b : Bool} {K : Fr} : ResOk K H0 H Z FP .fz (.bl b) (.bl b) := by show Rep _ _ _ _ _; simp only [Rep]
theorem fz_int {H0 H : Hp} {Z : Addr → Prop} {FP : Nat → List Addr} {b : Int} {K : Fr} : ResOk K H0 H Z FP .fz (.int b) (.int b) := by show Rep _ _ _ _ _; simp only [Rep]
theorem fz_str {H0 H : Hp} {Z : Addr → Prop} {FP : Nat → List Addr} {b : List Nat} {K : Fr} : ResOk K H0 H Z FP .fz (.str b) (.str (mkS b)) := by show Rep _ _ _ _ _; simp only [Rep]
theorem fz_non {H0 H : Hp} {Z : Addr → Prop} {FP : Nat → List Addr} {K : Fr} : ResOk K H0 H Z FP .fz .non .non := by show Rep _ _ _ _ _; simp only [Rep]
/-- a truth value of two data, both only read -/
theorem Op2.bl {r : R2} {f : D → D → Option Bool} {neg : Bool}
    (h : ∀ (H : Hp) (Q : VK) (a b : D) (k : Bool) (x y : V), Rep X.fr H All a x → Rep X.fr H All b y → f a b = some k → Q (.bl (if neg then !k else k)) H → r x y H Q) : Op2 X r (op2 (blG neg f)) :=
  Op2.of fun FP H0 H Z Q a b c x y s zd r1 r2 e q => by
    unfold blG at e
    rw [Option.map_eq_some_iff] at e
    obtain ⟨k, e1, e2⟩ := e
    subst e2
    exact h H Q a.2 b.2 k x y r1.read r2.read e1 (q _ H Z .refl fz_bl)
def rEqAll (K : PySem.W.Frag) : R2 := fun x y H Q => rEq x y H Q ∨ rEqD K x y H Q
def rNeAll (K : PySem.W.Frag) : R2 := fun x y H Q => rNe x y H Q ∨ rNeD K x y H Q
theorem op_eqAll (hu : X.A.units + 64 < cLine) : OpR X (compareOp .Eq) (rEqAll X.K) := OpR.or op_eq (op_eqD hu)
theorem op_neAll (hu : X.A.units + 64 < cLine) : OpR X (compareOp .NotEq) (rNeAll X.K) := OpR.or op_ne (op_neD hu)
theorem mkS_dec (s t : List Nat) : decide (V.str (mkS s) = V.str (mkS t)) = decide (s = t) := by
  rw [decide_eq_decide]
  exact ⟨fun h => mkS_inj (V.str.inj h), fun h => by rw [h]⟩
theorem int_dec (s t : Int) : decide (V.int s = V.int t) = decide (s = t) := by
  rw [decide_eq_decide]
  exact ⟨fun h => V.int.inj h, fun h => by rw [h]⟩
theorem eqD_cases {H : Hp} {a b : D} {k : Bool} {x y : V} (r1 : Rep X.fr H All a x) (r2 : Rep X.fr H All b y) (e : eqD a b = some k) :
    (scal x y = true ∧ k = decide (x = y)) ∨ ∃ p q, Dp X.K H x p ∧ Dp X.K H y q ∧ SeqAt.shaped p = true ∧ SeqAt.shaped q = true ∧ k = PyData.eqv p q := by
  unfold eqD at e
  split at e
  · cases e
    simp only [Rep] at r1 r2
    subst r1 r2
    exact .inl ⟨rfl, (int_dec _ _).symm⟩
  · cases e
    simp only [Rep] at r1 r2
    subst r1 r2
    exact .inl ⟨rfl, (mkS_dec _ _).symm⟩
  · split at e
    · rename_i p q e1 e2
      cases e
      obtain ⟨e1, s1⟩ := toPyS_some e1
      obtain ⟨e2, s2⟩ := toPyS_some e2
      exact .inr ⟨p, q, toPy_dp _ _ _ r1 e1, toPy_dp _ _ _ r2 e2, s1, s2, rfl⟩
    · cases e
theorem eq_ok : Op2 X (rEqAll X.K) (op2 (blG false eqD)) := Op2.bl fun H Q a b k x y r1 r2 e q => by
  rcases eqD_cases r1 r2 e with ⟨s, e⟩ | ⟨p, p2, h1, h2, s1, s2, e⟩
  · subst e; exact .inl ⟨s, q⟩
  · subst e; exact .inr ⟨p, p2, h1, h2, s1, s2, q⟩
theorem ne_ok : Op2 X (rNeAll X.K) (op2 (blG true eqD)) := Op2.bl fun H Q a b k x y r1 r2 e q => by
  rcases eqD_cases r1 r2 e with ⟨s, e⟩ | ⟨p, p2, h1, h2, s1, s2, e⟩
  · subst e; exact .inl ⟨s, q⟩
  · subst e; exact .inr ⟨p, p2, h1, h2, s1, s2, q⟩
end

/-! ### the order -/
def nn : PyData → Bool
  | .none => false
  | _ => true
theorem nn_ne {p : PyData} (h : nn p = true) : p ≠ .none := fun e => by rw [e] at h; cases h
def ltD (a b : D) : Option Bool := match a, b with
  | .int i, .int j => some (decide (i < j))
  | a, b => match toPyS a, toPyS b with
    | some p, some q => if W.alike p q = true ∧ nn p = true then some (W.dataLt p q) else none
    | _, _ => none
/-- < > <= >= -/
inductive Cm where
  | lt | gt | le | ge
  deriving DecidableEq
def Cm.op : Cm → CmpOp
  | .lt => .Lt | .gt => .Gt | .le => .LtE | .ge => .GtE
def Cm.sw : Cm → Bool
  | .lt => false | .gt => true | .le => true | .ge => false
def Cm.neg : Cm → Bool
  | .lt => false | .gt => false | .le => true | .ge => true
def cmD (c : Cm) (a b : D) : Option Bool := if c.sw = true then ltD b a else ltD a b
def rCmD (K : PySem.W.Frag) (c : Cm) : R2 := fun x y H Q => ∃ p q, Dp K H x p ∧ Dp K H y q ∧ W.alike p q = true ∧ p ≠ .none ∧ SeqAt.shaped p = true ∧
  Q (.bl (let k := if c.sw = true then W.dataLt q p else W.dataLt p q; if c.neg = true then !k else k)) H
section
variable {X : Cx}
theorem op_cmD (hu : X.A.units + 64 < cLine) (c : Cm) : OpR X (compareOp c.op) (rCmD X.K c) := by
  intro pins s σ H x y v u Q I rx ry h
  obtain ⟨p, q, h1, h2, al, ne, sh, hq⟩ := h
  obtain ⟨as, r1⟩ := Dp.reads I p x v h1 rx
  obtain ⟨bs, r2⟩ := Dp.reads I q y u h2 ry
  have room := SeqAt.room_of_shaped (A := X.A) (db := q) sh hu
  cases c with
  | lt => exact W.lt_data r1 r2 al ne room ⟨.bl _, H, I, rfl, hq⟩
  | gt => exact W.gt_data r1 r2 al ne room ⟨.bl _, H, I, rfl, hq⟩
  | le => exact W.le_data r1 r2 al ne room ⟨.bl _, H, I, rfl, hq⟩
  | ge => exact W.ge_data r1 r2 al ne room ⟨.bl _, H, I, rfl, hq⟩
theorem ltD_cases {H : Hp} {a b : D} {k : Bool} {x y : V} (r1 : Rep X.fr H All a x) (r2 : Rep X.fr H All b y) (e : ltD a b = some k) :
    ∃ p q, Dp X.K H x p ∧ Dp X.K H y q ∧ W.alike p q = true ∧ p ≠ .none ∧ SeqAt.shaped p = true ∧ SeqAt.shaped q = true ∧ k = W.dataLt p q := by
  unfold ltD at e
  split at e
  · cases e
    simp only [Rep] at r1 r2
    subst r1 r2
    exact ⟨_, _, .int _, .int _, rfl, by simp, by rfl, by rfl, (W.dataLt_int _ _).symm⟩
  · split at e
    · rename_i p q e1 e2
      split at e <;> cases e
      rename_i hh
      obtain ⟨e1, s1⟩ := toPyS_some e1
      obtain ⟨e2, s2⟩ := toPyS_some e2
      exact ⟨p, q, toPy_dp _ _ _ r1 e1, toPy_dp _ _ _ r2 e2, hh.1, nn_ne hh.2, s1, s2, rfl⟩
    · cases e
theorem cm_ok (c : Cm) : Op2 X (rCmD X.K c) (op2 (blG c.neg (cmD c))) := Op2.bl fun H Q a b k x y r1 r2 e q => by
  unfold cmD at e
  cases hs : c.sw with
  | false =>
    rw [hs] at e
    simp only [Bool.false_eq_true, if_false] at e
    obtain ⟨p, p2, h1, h2, al, ne, s1, s2, e⟩ := ltD_cases r1 r2 e
    subst e
    refine ⟨p, p2, h1, h2, al, ne, s1, ?_⟩
    rw [hs]
    simpa using q
  | true =>
    rw [hs] at e
    simp only [if_true] at e
    obtain ⟨p, p2, h1, h2, al, ne, s1, s2, e⟩ := ltD_cases r2 r1 e
    subst e
    refine ⟨p2, p, h2, h1, (W.alike_comm _ _).trans al, W.ne_none_both al ne, s2, ?_⟩
    rw [hs]
    simpa using q
end

/-! ### in -/
def inD (a b : D) : Option Bool := match a, b with
  | .str [c], .str t => some (decide (c ∈ t))
  | a, .lst ds => match toPyS a, toPyS (.lst ds) with
    | some p, some (.list qs) => some (qs.any fun z => PyData.eqv z p)
    | _, _ => none
  | a, .tup ds => match toPyS a, toPyS (.tup ds) with
    | some p, some (.tuple qs) => some (qs.any fun z => PyData.eqv z p)
    | _, _ => none
  | _, _ => none
def inop (neg : Bool) : CmpOp := if neg then .NotIn else .In
def rInAll (K : PySem.W.Frag) (neg : Bool) : R2 := fun x y H Q => (∃ (c : Nat) (z : Str), x = .str ⟨#[c]⟩ ∧ y = .str z ∧ Q (.bl (if neg then !decide (c ∈ z.cps.toList) else decide (c ∈ z.cps.toList))) H) ∨
  ∃ d qs, Dp K H x d ∧ (Dp K H y (.list qs) ∨ Dp K H y (.tuple qs)) ∧ SeqAt.shaped d = true ∧ PyData.canLayAll0 qs = true ∧ Q (.bl (if neg then !(qs.any fun z => PyData.eqv z d) else qs.any fun z => PyData.eqv z d)) H
section
variable {X : Cx}
theorem op_inAll (hu : X.A.units + 65 < cLine) (neg : Bool) : OpR X (compareOp (inop neg)) (rInAll X.K neg) := by
  intro pins s σ H x y v u Q I rx ry h
  rcases h with ⟨c, z, e1, e2, q⟩ | ⟨d, qs, h1, h2, s1, s2, q⟩
  · cases neg with
    | false => exact op_in_sign pins s σ H x y v u Q I rx ry ⟨c, z, e1, e2, q⟩
    | true => exact op_notInS pins s σ H x y v u Q I rx ry ⟨c, z, e1, e2, q⟩
  · obtain ⟨as, r1⟩ := Dp.reads I d x v h1 rx
    have room := room_in_shaped (xs := qs) s1 hu
    rcases h2 with h2 | h2
    · obtain ⟨bs, r2⟩ := Dp.reads I _ y u h2 ry
      cases neg with
      | false => exact SeqAt.in_list_reads r2 r1 s2 (SeqAt.canLay_of_shaped s1) room ⟨.bl _, H, I, rfl, q⟩
      | true => exact SeqAt.notIn_list_reads r2 r1 s2 (SeqAt.canLay_of_shaped s1) room ⟨.bl _, H, I, rfl, q⟩
    · obtain ⟨bs, r2⟩ := Dp.reads I _ y u h2 ry
      cases neg with
      | false => exact SeqAt.in_tuple_reads r2 r1 s2 (SeqAt.canLay_of_shaped s1) room ⟨.bl _, H, I, rfl, q⟩
      | true => exact SeqAt.notIn_tuple_reads r2 r1 s2 (SeqAt.canLay_of_shaped s1) room ⟨.bl _, H, I, rfl, q⟩
theorem in_read {neg : Bool} {H : Hp} {Q : VK} {a b : D} {k : Bool} {x y : V} (r1 : Rep X.fr H All a x) (r2 : Rep X.fr H All b y) (e : inD a b = some k) (q : Q (.bl (if neg then !k else k)) H) : rInAll X.K neg x y H Q := by
  unfold inD at e
  split at e
  · cases e
    simp only [Rep] at r1 r2
    exact .inl ⟨_, _, r1, r2, q⟩
  · rename_i ds
    split at e
    · rename_i p qs e1 e2
      cases e
      obtain ⟨e1, s1⟩ := toPyS_some e1
      obtain ⟨e2, s2⟩ := toPyS_some e2
      exact .inr ⟨p, qs, toPy_dp _ _ _ r1 e1, .inl (toPy_dp _ _ _ r2 e2), s1, SeqAt.canLay_of_shaped s2, q⟩
    · cases e
  · rename_i ds _
    split at e
    · rename_i p qs e1 e2
      cases e
      obtain ⟨e1, s1⟩ := toPyS_some e1
      obtain ⟨e2, s2⟩ := toPyS_some e2
      exact .inr ⟨p, qs, toPy_dp _ _ _ r1 e1, .inr (toPy_dp _ _ _ r2 e2), s1, SeqAt.canLay_of_shaped s2, q⟩
    · cases e
  · cases e
theorem in_ok (neg : Bool) : Op2 X (rInAll X.K neg) (op2 (blG neg inD)) := Op2.bl fun H Q a b k x y r1 r2 e q => in_read r1 r2 e q
end

/-! ### * -/
def repD {α : Type} (n : Nat) (l : List α) : List α := (List.replicate n l).flatten
def mulG (a b : Mo × D) : Option (Mo × D) := match a.2, b.2 with
  | .int i, .int j => if mulOk i j = true then some (.fz, .int (i * j)) else none
  | .tup s, .int k => if s ≠ [] ∧ 2 ≤ k ∧ k ≤ 1000 ∧ s.length ≤ 1000 then some (.fz, .tup (repD k.toNat s)) else none
  | .lst s, .int k => if 0 ≤ k ∧ k < 2 ^ 63 ∧ s.length * k.toNat ≤ sizeLine ∧ elOk a.1 s = true then some (lmo (repD k.toNat s), .lst (repD k.toNat s)) else none
  | .str s, .int k => if 2 ≤ k ∧ k ≤ 1000 ∧ 1 ≤ s.length ∧ s.length ≤ 1000 then some (.fz, .str (repD k.toNat s)) else none
  | _, _ => none
theorem RepL.repD {K : Fr} {H : Hp} {Z : Addr → Prop} {ds : List D} {xs : List V} (h : RepL K H Z ds xs) : ∀ n : Nat, RepL K H Z (Pi.repD n ds) (List.replicate n xs).flatten
  | 0 => by simp [Pi.repD, RepL]
  | n + 1 => by
    have := RepL.repD h n
    unfold Pi.repD at this ⊢
    rw [List.replicate_succ, List.flatten_cons, List.replicate_succ, List.flatten_cons]
    exact h.append this
def rMulS : R2 := fun x y H Q => ∃ (s : Str) (k : Int), x = .str s ∧ y = .int k ∧ PySem.MulOk s k ∧ Q (.str (Txt.mul s k)) H
def rMulAll (K : PySem.W.Frag) : R2 := fun x y H Q => (rI CMulW fun i j => .int (i * j)) x y H Q ∨ (rI CMul fun i j => .int (i * j)) x y H Q ∨ rRepT K x y H Q ∨ rRep x y H Q ∨ rMulS x y H Q
theorem op_mulS {X : Cx} : OpR X (binaryOp .Mult) rMulS := by
  intro pins s σ H x y v u Q I rx ry h
  obtain ⟨z, k, e1, e2, ok, q⟩ := h
  subst e1 e2
  obtain ⟨t, rfl⟩ := rx
  obtain ⟨t', rfl⟩ := ry
  exact SB.mul ok fun t' k' => ⟨.str _, H, I.tok _, ⟨_, rfl⟩, q⟩
theorem op_mulAll {X : Cx} : OpR X (binaryOp .Mult) (rMulAll X.K) := OpR.or op_mulW (OpR.or op_mul (OpR.or op_repT (OpR.or op_rep op_mulS)))

theorem foldl_app (a : Array Nat) : ∀ (n : Nat) (acc : Array Nat), ((List.replicate n a).foldl (· ++ ·) acc).toList = acc.toList ++ (List.replicate n a.toList).flatten
  | 0, acc => by simp
  | n + 1, acc => by
    rw [List.replicate_succ, List.foldl_cons, foldl_app a n, List.replicate_succ, List.flatten_cons]
    simp
theorem txt_mul (s : List Nat) (k : Int) (h : 2 ≤ k) (h1 : 1 ≤ s.length) : PySem.Txt.mul (mkS s) k = mkS (repD k.toNat s) := by
  unfold PySem.Txt.mul
  rw [if_neg (by omega)]
  have e : (k == 1 || (mkS s).length == 0) = false := by
    rw [mkS_length]
    simp only [Bool.or_eq_false_iff, beq_eq_false_iff_ne]
    exact ⟨by omega, by omega⟩
  rw [e, if_neg (by decide)]
  unfold mkS repD
  have h2 := foldl_app s.toArray k.toNat #[]
  simp only [List.nil_append, Array.toList_empty] at h2
  rw [← h2]
section
variable {X : Cx}
theorem mul_ok : Op2 X (rMulAll X.K) (op2 mulG) := Op2.of fun FP H0 H Z Q a b c x y s zd r1 r2 e q => by
  obtain ⟨m1, d1⟩ := a
  obtain ⟨m2, d2⟩ := b
  unfold mulG at e
  split at e
  · rename_i i j h1 h2
    split at e <;> cases e
    rename_i hm
    simp only at h1 h2
    subst h1 h2
    have r1 := r1.atom rfl
    have r2 := r2.atom rfl
    simp only [Rep] at r1 r2
    unfold mulOk at hm
    simp only [Bool.or_eq_true, Bool.and_eq_true, decide_eq_true_eq] at hm
    rcases hm with (hm | hm) | hm
    · exact .inl ⟨_, _, r1, r2, hm, q _ H Z .refl fz_int⟩
    · exact .inr (.inl ⟨_, _, r1, r2, .inl hm, q _ H Z .refl fz_int⟩)
    · exact .inr (.inl ⟨_, _, r1, r2, .inr hm, q _ H Z .refl fz_int⟩)
  · rename_i s' k h1 h2
    split at e <;> cases e
    rename_i hl
    simp only at h1 h2
    subst h1 h2
    have r2 := r2.atom rfl
    simp only [Rep] at r2
    obtain ⟨a, xs, e1, q1, l1⟩ := tup_rep (r1.atom rfl)
    refine .inr (.inr (.inl ⟨a, k, xs, e1, r2, q1, fun z => hl.1 (List.eq_nil_of_length_eq_zero (by rw [← l1.length, z]; rfl)), hl.2.1, hl.2.2.1, by rw [l1.length]; exact hl.2.2.2, fun p hp => ?_⟩))
    obtain ⟨x1, x2⟩ := new_tup hp (l1.repD k.toNat)
    exact q _ _ _ x1 x2
  · rename_i s' k h1 h2
    split at e <;> cases e
    rename_i hl
    simp only at h1 h2 hl
    subst h1 h2
    have r2 := r2.atom rfl
    simp only [Rep] at r2
    obtain ⟨a, xs, e1, q1, l1⟩ := r1.items hl.2.2.2
    refine .inr (.inr (.inr (.inl ⟨a, k, xs, e1, r2, q1, by omega, hl.2.1, by rw [l1.length]; exact hl.2.2.1, fun p hp => ?_⟩)))
    obtain ⟨Z', x1, x2⟩ := new_lst (FP := FP) zd s hp (l1.repD k.toNat)
    exact q _ _ _ x1 x2
  · rename_i s' k h1 h2
    split at e <;> cases e
    rename_i hl
    simp only at h1 h2
    subst h1 h2
    have r1 := r1.atom rfl
    have r2 := r2.atom rfl
    simp only [Rep] at r1 r2
    refine .inr (.inr (.inr (.inr ⟨_, k, r1, r2, ⟨?_, fun _ _ => ?_, fun _ _ => ?_⟩, ?_⟩)))
    · simp
      omega
    · rw [mkS_length]
      have h3 : (s'.length : Int) * k ≤ 1000 * 1000 := Int.mul_le_mul (by omega) hl.2.1 (by omega) (by omega)
      have h4 : (s'.length : Int) ≤ (2 ^ 63 - 1) / k := (Int.le_ediv_iff_mul_le (by omega)).mpr (by omega)
      omega
    · rw [mkS_length]
      show PySem.Builtin.Str.tooLong _ = false
      unfold PySem.Builtin.Str.tooLong
      have : s'.length * k.toNat ≤ 1000 * 1000 := Nat.mul_le_mul hl.2.2.2 (by omega)
      have z : sizeLine = 16777216 := by decide
      simp
      omega
    · rw [txt_mul _ _ hl.1 hl.2.2.1]
      exact q _ H Z .refl fz_str
  · cases e
end

end Pi

set_option Elab.async false
set_option linter.all false
set_option maxRecDepth 100000
set_option maxHeartbeats 4000000
/-! Pi4: the built-in functions on data. -/
namespace Pi
open PySem PySem.Spec PyProof.Rows L2

/-! ### sorting -/
def insI (x : Int) : List Int → List Int
  | [] => [x]
  | y :: r => if x ≤ y then x :: y :: r else y :: insI x r
def srtI : List Int → List Int
  | [] => []
  | x :: r => insI x (srtI r)
theorem insI_perm (x : Int) : ∀ l, (insI x l).Perm (x :: l)
  | [] => .refl _
  | y :: r => by
    unfold insI
    split
    · exact .refl _
    · exact ((insI_perm x r).cons y).trans (.swap _ _ _)
theorem srtI_perm : ∀ l, (srtI l).Perm l
  | [] => .refl _
  | x :: r => (insI_perm x (srtI r)).trans ((srtI_perm r).cons x)
theorem insI_sorted (x : Int) : ∀ l, l.Pairwise (· ≤ ·) → (insI x l).Pairwise (· ≤ ·)
  | [], _ => by simp [insI]
  | y :: r, h => by
    have h' := List.pairwise_cons.mp h
    unfold insI
    split
    · rename_i hxy
      refine List.pairwise_cons.mpr ⟨fun z hz => ?_, h⟩
      rcases List.mem_cons.mp hz with e | hz
      · rw [e]; exact hxy
      · exact Int.le_trans hxy (h'.1 z hz)
    · rename_i hxy
      refine List.pairwise_cons.mpr ⟨fun z hz => ?_, insI_sorted x r h'.2⟩
      rcases List.mem_cons.mp ((insI_perm x r).subset hz) with e | hz
      · rw [e]; omega
      · exact h'.1 z hz
theorem srtI_sorted : ∀ l, (srtI l).Pairwise (· ≤ ·)
  | [] => .nil
  | x :: r => insI_sorted x _ (srtI_sorted r)
theorem sortedI_uniq : ∀ {l m : List Int}, l.Perm m → l.Pairwise (· ≤ ·) → m.Pairwise (· ≤ ·) → l = m
  | [], m, p, _, _ => (List.nil_perm.mp p).symm
  | x :: l, [], p, _, _ => absurd p (by simp)
  | x :: l, y :: m, p, h1, h2 => by
    have h1' := List.pairwise_cons.mp h1
    have h2' := List.pairwise_cons.mp h2
    have e : x = y := by
      have a : x ∈ y :: m := p.subset List.mem_cons_self
      have b : y ∈ x :: l := p.symm.subset List.mem_cons_self
      rcases List.mem_cons.mp a with e | a
      · exact e
      · rcases List.mem_cons.mp b with e | b
        · exact e.symm
        · exact Int.le_antisymm (h1'.1 y b) (h2'.1 x a)
    subst e
    rw [sortedI_uniq (p.cons_inv) h1'.2 h2'.2]
theorem srtI_uniq {l m : List Int} (p : l.Perm m) (h : l.Pairwise (· ≤ ·)) : l = srtI m := sortedI_uniq (p.trans (srtI_perm m).symm) h (srtI_sorted m)

/-- the order of texts -/
def leS (a b : List Nat) : Bool := !decide (b < a)
theorem leS_total {a b : List Nat} (h : leS a b = false) : leS b a = true := by
  unfold leS at *
  simp at *
  exact List.le_of_lt h
theorem leS_antisymm {a b : List Nat} (h : leS a b = true) (h' : leS b a = true) : a = b := by
  unfold leS at *
  simp at *
  exact List.le_antisymm h h'
theorem leS_trans {a b c : List Nat} (h : leS a b = true) (h' : leS b c = true) : leS a c = true := by
  unfold leS at *
  simp at *
  exact List.le_trans h h'
def insS (x : List Nat) : List (List Nat) → List (List Nat)
  | [] => [x]
  | y :: r => if leS x y = true then x :: y :: r else y :: insS x r
def srtS : List (List Nat) → List (List Nat)
  | [] => []
  | x :: r => insS x (srtS r)
theorem insS_perm (x : List Nat) : ∀ l, (insS x l).Perm (x :: l)
  | [] => .refl _
  | y :: r => by
    unfold insS
    split
    · exact .refl _
    · exact ((insS_perm x r).cons y).trans (.swap _ _ _)
theorem srtS_perm : ∀ l, (srtS l).Perm l
  | [] => .refl _
  | x :: r => (insS_perm x (srtS r)).trans ((srtS_perm r).cons x)
def SrtS (l : List (List Nat)) : Prop := l.Pairwise (fun a b => leS a b = true)
theorem insS_sorted (x : List Nat) : ∀ l, SrtS l → SrtS (insS x l)
  | [], _ => by simp [insS, SrtS]
  | y :: r, h => by
    have h' := List.pairwise_cons.mp h
    unfold insS
    split
    · rename_i hxy
      refine List.pairwise_cons.mpr ⟨fun z hz => ?_, h⟩
      rcases List.mem_cons.mp hz with e | hz
      · rw [e]; exact hxy
      · exact leS_trans hxy (h'.1 z hz)
    · rename_i hxy
      refine List.pairwise_cons.mpr ⟨fun z hz => ?_, insS_sorted x r h'.2⟩
      rcases List.mem_cons.mp ((insS_perm x r).subset hz) with e | hz
      · rw [e]; exact leS_total (by simpa using hxy)
      · exact h'.1 z hz
theorem srtS_sorted : ∀ l, SrtS (srtS l)
  | [] => .nil
  | x :: r => insS_sorted x _ (srtS_sorted r)
theorem sortedS_uniq : ∀ {l m : List (List Nat)}, l.Perm m → SrtS l → SrtS m → l = m
  | [], m, p, _, _ => (List.nil_perm.mp p).symm
  | x :: l, [], p, _, _ => absurd p (by simp)
  | x :: l, y :: m, p, h1, h2 => by
    have h1' := List.pairwise_cons.mp h1
    have h2' := List.pairwise_cons.mp h2
    have e : x = y := by
      have a : x ∈ y :: m := p.subset List.mem_cons_self
      have b : y ∈ x :: l := p.symm.subset List.mem_cons_self
      rcases List.mem_cons.mp a with e | a
      · exact e
      · rcases List.mem_cons.mp b with e | b
        · exact e.symm
        · exact leS_antisymm (h1'.1 y b) (h2'.1 x a)
    subst e
    rw [sortedS_uniq (p.cons_inv) h1'.2 h2'.2]
theorem srtS_uniq {l m : List (List Nat)} (p : l.Perm m) (h : SrtS l) : l = srtS m := sortedS_uniq (p.trans (srtS_perm m).symm) h (srtS_sorted m)

/-! ### functions of argument lists -/
def OpN (X : Cx) (r : List V → Hp → VK → Prop) (g : List (Mo × D) → Option (Mo × D)) : Prop :=
  ∀ (FP : Nat → List Addr) (H0 H : Hp) (Z : Addr → Prop) (Q : VK) (as : List (Mo × D)) (c : Mo × D) (G : List Addr) (vs : List V), Same H0 H → (∀ a, Z a → H a ≠ none) → ResL X.fr H0 H Z FP as G vs → g as = some c →
    (∀ v H' Z', Ext H Z H' Z' → ResOk X.fr H0 H' Z' FP c.1 c.2 v → Q v H') → r vs H Q
section
variable {K : Fr} {H0 H : Hp} {Z : Addr → Prop} {FP : Nat → List Addr} {a b c : Mo × D} {as : List (Mo × D)} {G : List Addr} {vs : List V}
theorem ResL.nil (h : ResL K H0 H Z FP [] G vs) : vs = [] := by simp only [ResL] at h; exact h.2
theorem ResL.cons (h : ResL K H0 H Z FP (a :: as) G vs) : ∃ v vs' G2, vs = v :: vs' ∧ ResOk K H0 H Z FP a.1 a.2 v ∧ ResL K H0 H Z FP as G2 vs' := by
  obtain ⟨m, d⟩ := a
  simp only [ResL] at h
  obtain ⟨v, vs', G1, G2, e, _, _, h1, h2⟩ := h
  refine ⟨v, vs', G2, e, ?_, h2⟩
  cases m with
  | fz => exact h1.2
  | ow => exact ⟨G1, h1⟩
  | bo => exact h1.2
theorem ResL.one (h : ResL K H0 H Z FP [a] G vs) : ∃ x, vs = [x] ∧ ResOk K H0 H Z FP a.1 a.2 x := by
  obtain ⟨v, vs', G2, e, h1, h2⟩ := h.cons
  rw [h2.nil] at e
  exact ⟨v, e, h1⟩
theorem ResL.two (h : ResL K H0 H Z FP [a, b] G vs) : ∃ x y, vs = [x, y] ∧ ResOk K H0 H Z FP a.1 a.2 x ∧ ResOk K H0 H Z FP b.1 b.2 y := by
  obtain ⟨v, vs', G2, e, h1, h2⟩ := h.cons
  obtain ⟨y, e2, h3⟩ := h2.one
  exact ⟨v, y, by rw [e, e2], h1, h3⟩
end
def on1 (g : Mo × D → Option (Mo × D)) : List (Mo × D) → Option (Mo × D)
  | [a] => g a
  | _ => none
def on2 (g : Mo × D → Mo × D → Option (Mo × D)) : List (Mo × D) → Option (Mo × D)
  | [a, b] => g a b
  | _ => none
section
variable {X : Cx}
theorem OpN.of1 {r : List V → Hp → VK → Prop} {g : Mo × D → Option (Mo × D)}
    (h : ∀ (FP : Nat → List Addr) (H0 H : Hp) (Z : Addr → Prop) (Q : VK) (a c : Mo × D) (x : V), Same H0 H → (∀ a, Z a → H a ≠ none) → ResOk X.fr H0 H Z FP a.1 a.2 x → g a = some c →
      (∀ v H' Z', Ext H Z H' Z' → ResOk X.fr H0 H' Z' FP c.1 c.2 v → Q v H') → r [x] H Q) : OpN X r (on1 g) := fun FP H0 H Z Q as c G vs s zd rl e q => by
  unfold on1 at e
  split at e
  · obtain ⟨x, e2, r1⟩ := rl.one
    rw [e2]
    exact h FP H0 H Z Q _ c x s zd r1 e q
  · cases e
theorem OpN.of2 {r : List V → Hp → VK → Prop} {g : Mo × D → Mo × D → Option (Mo × D)}
    (h : ∀ (FP : Nat → List Addr) (H0 H : Hp) (Z : Addr → Prop) (Q : VK) (a b c : Mo × D) (x y : V), Same H0 H → (∀ a, Z a → H a ≠ none) → ResOk X.fr H0 H Z FP a.1 a.2 x → ResOk X.fr H0 H Z FP b.1 b.2 y → g a b = some c →
      (∀ v H' Z', Ext H Z H' Z' → ResOk X.fr H0 H' Z' FP c.1 c.2 v → Q v H') → r [x, y] H Q) : OpN X r (on2 g) := fun FP H0 H Z Q as c G vs s zd rl e q => by
  unfold on2 at e
  split at e
  · obtain ⟨x, y, e2, r1, r2⟩ := rl.two
    rw [e2]
    exact h FP H0 H Z Q _ _ c x y s zd r1 r2 e q
  · cases e
end
/-- ints, truth values, texts of a list of data -/
def ints? : List D → Option (List Int)
  | [] => some []
  | .int i :: r => (ints? r).map fun l => i :: l
  | _ => none
def bls? : List D → Option (List Bool)
  | [] => some []
  | .bl i :: r => (bls? r).map fun l => i :: l
  | _ => none
def strs? : List D → Option (List (List Nat))
  | [] => some []
  | .str i :: r => (strs? r).map fun l => i :: l
  | _ => none
theorem ints?_eq : ∀ {ds : List D} {ns : List Int}, ints? ds = some ns → ds = ns.map D.int
  | [], ns, h => by simp only [ints?] at h; cases h; rfl
  | d :: r, ns, h => by
    unfold ints? at h
    split at h
    · rename_i e; cases e
    · rename_i i r' e
      cases e
      rw [Option.map_eq_some_iff] at h
      obtain ⟨l, h1, h2⟩ := h
      subst h2
      rw [List.map_cons, ints?_eq h1]
    · cases h
theorem bls?_eq : ∀ {ds : List D} {ns : List Bool}, bls? ds = some ns → ds = ns.map D.bl
  | [], ns, h => by simp only [bls?] at h; cases h; rfl
  | d :: r, ns, h => by
    unfold bls? at h
    split at h
    · rename_i e; cases e
    · rename_i i r' e
      cases e
      rw [Option.map_eq_some_iff] at h
      obtain ⟨l, h1, h2⟩ := h
      subst h2
      rw [List.map_cons, bls?_eq h1]
    · cases h
theorem strs?_eq : ∀ {ds : List D} {ns : List (List Nat)}, strs? ds = some ns → ds = ns.map D.str
  | [], ns, h => by simp only [strs?] at h; cases h; rfl
  | d :: r, ns, h => by
    unfold strs? at h
    split at h
    · rename_i e; cases e
    · rename_i i r' e
      cases e
      rw [Option.map_eq_some_iff] at h
      obtain ⟨l, h1, h2⟩ := h
      subst h2
      rw [List.map_cons, strs?_eq h1]
    · cases h
theorem ints?_map (ns : List Int) : ints? (ns.map D.int) = some ns := by
  induction ns with
  | nil => rfl
  | cons n r ih => simp only [List.map_cons, ints?, ih, Option.map_some]
theorem bls?_map (ns : List Bool) : bls? (ns.map D.bl) = some ns := by
  induction ns with
  | nil => rfl
  | cons n r ih => simp only [List.map_cons, bls?, ih, Option.map_some]
theorem strs?_map (ns : List (List Nat)) : strs? (ns.map D.str) = some ns := by
  induction ns with
  | nil => rfl
  | cons n r ih => simp only [List.map_cons, strs?, ih, Option.map_some]
theorem all_map_atom {α : Type} {f : α → D} (h : ∀ a, (f a).atom = true) (l : List α) : (l.map f).all D.atom = true := by
  simp [List.all_eq_true, h]
theorem lmo_ints (ns : List Int) : lmo (ns.map D.int) = .ow := if_pos (all_map_atom (fun _ => rfl) ns)
theorem lmo_strs (ns : List (List Nat)) : lmo (ns.map D.str) = .ow := if_pos (all_map_atom (fun _ => rfl) ns)
theorem lmo_bls (ns : List Bool) : lmo (ns.map D.bl) = .ow := if_pos (all_map_atom (fun _ => rfl) ns)
theorem strs_V (l : List (List Nat)) : (l.map mkS).map V.str = l.map (fun s => V.str (mkS s)) := by simp
theorem tl_map_mkS (l : List (List Nat)) : (l.map mkS).map tl = l := by
  rw [List.map_map]
  exact (List.map_congr_left fun s _ => rfl).trans (List.map_id l)
theorem mkS_map_tl (l : List Str) : (l.map tl).map mkS = l := by
  rw [List.map_map]
  exact (List.map_congr_left fun s _ => mkS_tl s).trans (List.map_id l)
theorem risingS_pw : ∀ (l : List Str) (p : Str), risingS p l = true → SrtS (tl p :: l.map tl)
  | [], p, _ => by simp [SrtS]
  | x :: r, p, h => by
    unfold risingS at h
    rw [Bool.and_eq_true] at h
    have ih := risingS_pw r x h.2
    have hp : leS (tl p) (tl x) = true := by
      have h1 := h.1
      unfold leS
      rw [ltCps_eq] at h1
      exact h1
    refine List.pairwise_cons.mpr ⟨fun z hz => ?_, ih⟩
    rcases List.mem_cons.mp hz with e | hz
    · rw [e]; exact hp
    · exact leS_trans hp ((List.pairwise_cons.mp ih).1 z hz)
theorem sortedS_pw : ∀ l : List Str, sortedS l = true → SrtS (l.map tl)
  | [], _ => .nil
  | x :: r, h => risingS_pw r x h

/-! ### the functions -/
def lenG (a : Mo × D) : Option (Mo × D) := match a.2 with
  | .str s => if s.length ≤ sizeLine then some (.fz, .int s.length) else none
  | .tup s => some (.fz, .int s.length)
  | .lst s => some (.fz, .int s.length)
  | .dic 0 ks _ => some (.fz, .int ks.length)
  | _ => none
def absG (a : Mo × D) : Option (Mo × D) := match a.2 with
  | .int i => some (.fz, .int (if i < 0 then -i else i))
  | _ => none
def intG (a : Mo × D) : Option (Mo × D) := match a.2 with
  | .int i => some (.fz, .int i)
  | _ => none
def allG (k : Bool) (a : Mo × D) : Option (Mo × D) := match a.2 with
  | .lst ds => (bls? ds).map fun l => (.fz, .bl (if k then l.all id else l.any id))
  | _ => none
def sumG (a : Mo × D) : Option (Mo × D) := match a.2 with
  | .lst ds => (ints? ds).map fun l => (.fz, .int l.sum)
  | _ => none
def tupG (a : Mo × D) : Option (Mo × D) := match a.2 with
  | .lst ds => if elOk a.1 ds = true then some (.fz, .tup ds) else none
  | .tup ds => some (.fz, .tup ds)
  | _ => none
def listG (a : Mo × D) : Option (Mo × D) := match a.2 with
  | .lst ds => if elOk a.1 ds = true then some (lmo ds, .lst ds) else none
  | .tup ds => some (lmo ds, .lst ds)
  | .dic 0 ks _ => some (.ow, .lst ks)
  | .str s => if s.length ≤ sizeLine then some (.ow, .lst (s.map fun c => .str [c])) else none
  | _ => none
def sortL (ds : List D) : Option (List D) := match ints? ds with
  | some ns => some ((srtI ns).map .int)
  | none => match strs? ds with
    | some ns => if ns.length < 64 then some ((srtS ns).map .str) else none
    | none => none
def sortG (a : Mo × D) : Option (Mo × D) := match a.2 with
  | .lst ds => (sortL ds).map fun l => (.ow, .lst l)
  | .dic 0 ks _ => if ks.length < 64 then (sortL ks).map fun l => (.ow, .lst l) else none
  | _ => none
section
variable {X : Cx}
theorem abs_ok : OpN X (fun xs H Q => ∃ i, xs = [.int i] ∧ Q (.int (if i < 0 then -i else i)) H) (on1 absG) := OpN.of1 fun FP H0 H Z Q a c x s zd r1 e q => by
  obtain ⟨m, d⟩ := a
  unfold absG at e
  split at e <;> cases e
  rename_i h
  simp only at h
  subst h
  have r1 := r1.atom rfl
  simp only [Rep] at r1
  subst r1
  exact ⟨_, rfl, q _ H Z .refl fz_int⟩
theorem int_ok : OpN X (fun xs H Q => (∃ i, xs = [.int i] ∧ Q (.int i) H) ∨ ∃ k, xs = [.bl k] ∧ Q (.int (if k then 1 else 0)) H) (on1 intG) := OpN.of1 fun FP H0 H Z Q a c x s zd r1 e q => by
  obtain ⟨m, d⟩ := a
  unfold intG at e
  split at e <;> cases e
  rename_i h
  simp only at h
  subst h
  have r1 := r1.atom rfl
  simp only [Rep] at r1
  subst r1
  exact .inl ⟨_, rfl, q _ H Z .refl fz_int⟩
theorem lst_read {K : Fr} {H : Hp} {Z : Addr → Prop} {ds : List D} {v : V} (h : Rep K H Z (.lst ds) v) : ∃ a xs, v = .ref a ∧ H a = some (.lst xs) ∧ RepL K H Z ds xs := by
  simp only [Rep] at h
  obtain ⟨a, xs, e, q, _, r⟩ := h
  exact ⟨a, xs, e, q, r⟩
theorem dic_read {K : Fr} {H : Hp} {Z : Addr → Prop} {ks vs : List D} {v : V} (h : Rep K H Z (.dic 0 ks vs) v) : ∃ a kvs, v = .ref a ∧ Rd H a (.dK kvs) ∧ ks = kvs.map (fun p => keyD p.1) ∧ RepL K H Z vs (kvs.map (·.2)) := by
  simp only [Rep, DcAt] at h
  obtain ⟨a, xs, e, ⟨kvs, q, e2, e3⟩, _, r⟩ := h
  exact ⟨a, kvs, e, q, e2, e3 ▸ r⟩
def rLenAll (K : PySem.W.Frag) : List V → Hp → VK → Prop := fun xs H Q => (∃ x n, xs = [x] ∧ LenV K x H n ∧ Q (.int n) H) ∨ ∃ a kvs, xs = [V.ref a] ∧ Rd H a (.dK kvs) ∧ Q (.int kvs.length) H
theorem call_lenRd : CallR X (.builtin "len") (fun xs H Q => ∃ a kvs, xs = [V.ref a] ∧ Rd H a (.dK kvs) ∧ Q (.int kvs.length) H) := by
  intro pins s σ H xs us Q I r h
  obtain ⟨a, kvs, e, hd, q⟩ := h
  subst e
  rw [Vals.ref1 r]
  exact d_len I hd fun t s' I' => ⟨.int _, H, I', ⟨_, rfl⟩, q⟩
theorem call_lenAll : CallR X (.builtin "len") (rLenAll X.K) := CallR.or call_len call_lenRd
theorem len_ok : OpN X (rLenAll X.K) (on1 lenG) := OpN.of1 fun FP H0 H Z Q a c x s zd r1 e q => by
  obtain ⟨m, d⟩ := a
  have r1 := r1.read
  unfold lenG at e
  split at e
  · rename_i h
    split at e <;> cases e
    simp only at h r1
    subst h
    simp only [Rep] at r1
    subst r1
    refine .inl ⟨_, _, rfl, ⟨by rw [mkS_length]; assumption, rfl⟩, ?_⟩
    rw [mkS_length]
    exact q _ H Z .refl fz_int
  · rename_i h
    cases e
    simp only at h r1
    subst h
    obtain ⟨a, xs, e1, q1, l1⟩ := tup_rep r1
    subst e1
    refine .inl ⟨_, _, rfl, .inr ⟨xs, q1, rfl⟩, ?_⟩
    rw [l1.length]
    exact q _ H Z .refl fz_int
  · rename_i h
    cases e
    simp only at h r1
    subst h
    obtain ⟨a, xs, e1, q1, l1⟩ := lst_read r1
    subst e1
    refine .inl ⟨_, _, rfl, .inl ⟨xs, .inl (.inl q1), rfl⟩, ?_⟩
    rw [l1.length]
    exact q _ H Z .refl fz_int
  · rename_i h
    cases e
    simp only at h r1
    subst h
    obtain ⟨a, kvs, e1, q1, e2, l1⟩ := dic_read r1
    subst e1
    refine .inr ⟨_, _, rfl, q1, ?_⟩
    have : kvs.length = (kvs.map fun p => keyD p.1).length := by simp
    rw [this, ← e2]
    exact q _ H Z .refl fz_int
  · cases e
theorem all_ok (k : Bool) : OpN X (fun vs H Q => ∃ (a : Addr) (bs : List Bool), vs = [V.ref a] ∧ SqL X.K H a (bs.map V.bl) ∧ Q (.bl (if k then bs.all id else bs.any id)) H) (on1 (allG k)) := OpN.of1 fun FP H0 H Z Q a c x s zd r1 e q => by
  obtain ⟨m, d⟩ := a
  have r1 := r1.read
  unfold allG at e
  split at e
  · rename_i h
    rw [Option.map_eq_some_iff] at e
    obtain ⟨l, e1, e2⟩ := e
    subst e2
    simp only at h r1
    subst h
    obtain ⟨a, xs, e3, q1, l1⟩ := lst_read r1
    subst e3
    rw [bls?_eq e1] at l1
    rw [l1.bls] at q1
    exact ⟨a, l, rfl, .inl (.inl q1), q _ H Z .refl fz_bl⟩
  · cases e
theorem sum_ok : OpN X (rSum X.K) (on1 sumG) := OpN.of1 fun FP H0 H Z Q a c x s zd r1 e q => by
  obtain ⟨m, d⟩ := a
  have r1 := r1.read
  unfold sumG at e
  split at e
  · rename_i h
    rw [Option.map_eq_some_iff] at e
    obtain ⟨l, e1, e2⟩ := e
    subst e2
    simp only at h r1
    subst h
    obtain ⟨a, xs, e3, q1, l1⟩ := lst_read r1
    subst e3
    rw [ints?_eq e1] at l1
    rw [l1.ints] at q1
    exact ⟨a, l, rfl, .inl (.inl q1), q _ H Z .refl fz_int⟩
  · cases e
theorem tup_ok : OpN X (fun xs H Q => ∃ p ys, xs = [.ref p] ∧ ((SqL X.K H p ys ∧ ∀ l, H l = none → Q (.ref l) (upd H l (.tup ys))) ∨ (SqT X.K H p ys ∧ Q (.ref p) H))) (on1 tupG) := OpN.of1 fun FP H0 H Z Q a c x s zd r1 e q => by
  obtain ⟨m, d⟩ := a
  unfold tupG at e
  split at e
  · rename_i h
    split at e <;> cases e
    rename_i hl
    simp only at h hl
    subst h
    obtain ⟨a, xs, e1, q1, l1⟩ := r1.items hl
    subst e1
    refine ⟨a, xs, rfl, .inl ⟨.inl (.inl q1), fun p hp => ?_⟩⟩
    obtain ⟨x1, x2⟩ := new_tup hp l1
    exact q _ _ _ x1 x2
  · rename_i h
    cases e
    simp only at h
    subst h
    have r2 := r1.atom rfl
    obtain ⟨a, xs, e1, q1, l1⟩ := tup_rep r2
    subst e1
    exact ⟨a, xs, rfl, .inr ⟨q1, q _ H Z .refl r2⟩⟩
  · cases e
end

section
variable {X : Cx}
/-- list(a text) -/
def rListS : List V → Hp → VK → Prop := fun xs H Q => ∃ z : Str, xs = [.str z] ∧ z.length ≤ sizeLine ∧ ∀ l, H l = none → Q (.ref l) (upd H l (.lst (z.cps.toList.map fun c => .str ⟨#[c]⟩)))
def rListAll (K : PySem.W.Frag) : List V → Hp → VK → Prop := fun xs H Q => (∃ p ys, xs = [.ref p] ∧ (SqL K H p ys ∨ SqT K H p ys) ∧ ∀ l, H l = none → Q (.ref l) (upd H l (.lst ys))) ∨
  (∃ (a : Addr) (kvs : List (Key × V)), xs = [.ref a] ∧ Rd H a (.dK kvs) ∧ ∀ p, H p = none → Q (.ref p) (upd H p (.lst (kvs.map fun kv => kV kv.1)))) ∨ rListS xs H Q
theorem rep_key {K : Fr} {H : Hp} {Z : Addr → Prop} (k : Key) : Rep K H Z (keyD k) (kV k) := by
  cases k with
  | inl i => simp only [keyD, kV, Rep]
  | inr x => simp only [keyD, kV, Rep, mkS_tl]
theorem repL_keys {K : Fr} {H : Hp} {Z : Addr → Prop} : ∀ (kvs : List (Key × V)), RepL K H Z (kvs.map fun p => keyD p.1) (kvs.map fun kv => kV kv.1)
  | [] => by simp [RepL]
  | p :: r => by
    simp only [List.map_cons, RepL]
    exact ⟨_, _, rfl, rep_key _, repL_keys r⟩
theorem lmo_keys (kvs : List (Key × V)) : lmo (kvs.map fun p => keyD p.1) = .ow := if_pos (all_map_atom (fun p => by rcases p with ⟨k | k, _⟩ <;> rfl) kvs)
theorem list_ok : OpN X (rListAll X.K) (on1 listG) := OpN.of1 fun FP H0 H Z Q a c x s zd r1 e q => by
  obtain ⟨m, d⟩ := a
  unfold listG at e
  split at e
  · rename_i h
    split at e <;> cases e
    rename_i hl
    simp only at h hl
    subst h
    obtain ⟨a, xs, e1, q1, l1⟩ := r1.items hl
    subst e1
    refine .inl ⟨a, xs, rfl, .inl (.inl (.inl q1)), fun p hp => ?_⟩
    obtain ⟨Z', x1, x2⟩ := new_lst (FP := FP) zd s hp l1
    exact q _ _ _ x1 x2
  · rename_i h
    cases e
    simp only at h
    subst h
    obtain ⟨a, xs, e1, q1, l1⟩ := tup_rep (r1.atom rfl)
    subst e1
    refine .inl ⟨a, xs, rfl, .inr q1, fun p hp => ?_⟩
    obtain ⟨Z', x1, x2⟩ := new_lst (FP := FP) zd s hp l1
    exact q _ _ _ x1 x2
  · rename_i h
    cases e
    simp only at h
    subst h
    obtain ⟨a, kvs, e1, q1, e2, l1⟩ := dic_read r1.read
    subst e1
    refine .inr (.inl ⟨a, kvs, rfl, q1, fun p hp => ?_⟩)
    obtain ⟨Z', x1, x2⟩ := new_lst (FP := FP) zd s hp (repL_keys kvs)
    rw [lmo_keys, ← e2] at x2
    exact q _ _ _ x1 x2
  · rename_i s' h
    split at e <;> cases e
    rename_i hz
    simp only at h
    subst h
    have r1 := r1.atom rfl
    simp only [Rep] at r1
    subst r1
    refine .inr (.inr ⟨_, rfl, by rw [mkS_length]; exact hz, fun p hp => ?_⟩)
    have hr : RepL X.fr H Z (s'.map fun c => D.str [c]) ((mkS s').cps.toList.map fun c => V.str ⟨#[c]⟩) := by
      have := RepL.of_strs (K := X.fr) (H := H) (Z := Z) (s'.map fun c => [c])
      simpa [mkS, Function.comp_def] using this
    obtain ⟨Z', x1, x2⟩ := new_lst (FP := FP) zd s hp hr
    rw [show lmo (s'.map fun c => D.str [c]) = .ow from if_pos (all_map_atom (fun _ => rfl) s')] at x2
    exact q _ _ _ x1 x2
  · cases e
theorem call_listS (hc : X.calm = true) : CallR X (.type "list") rListS := by
  intro pins s σ H xs us Q I r h
  obtain ⟨z, e, hz, q⟩ := h
  subst e
  obtain ⟨u, eu, rx⟩ := vals1 r
  subst eu
  obtain ⟨t, rfl⟩ := rx
  refine call_list_str (I.ok.hd hc) z t (hn := by simpa [Str.length] using hz) fun h' tk acc' c' hk hS hacc => ?_
  have hv : Vals (z.cps.toList.map fun c => V.str ⟨#[c]⟩) acc'.toList := by
    refine vals_of_at (by rw [List.length_map, Array.length_toList, Array.length_toList, hacc.1]) fun j x w h1 h2 => ?_
    obtain ⟨c, u, hc1, hc2⟩ := hacc.2 j w (by rw [← Array.getElem?_toList]; exact h2)
    rw [List.getElem?_map, Array.getElem?_toList, hc1] at h1
    cases h1
    exact ⟨u, hc2⟩
  refine ⟨.ref s.heap.objs.size, upd H s.heap.objs.size (.lst (z.cps.toList.map fun c => .str ⟨#[c]⟩)), I.laid (t' := tk) hk (Nat.le_refl _)
    (show ObjOk X.prog X.w _ _ _ (.lst (z.cps.toList.map fun c => .str ⟨#[c]⟩)) from ⟨by rw [List.length_map]; simpa [Str.length] using hz, acc'.toList, c', hv, by rw [Array.toArray_toList]; exact hS⟩), rfl, q _ (I.hok.fresh (Nat.le_refl _))⟩
theorem call_listAll (hc : X.calm = true) : CallR X (.type "list") (rListAll X.K) := CallR.or call_list_of (CallR.or (call_listD hc) (call_listS hc))
/-! sorted -/
def rSortAll (K : PySem.W.Frag) : List V → Hp → VK → Prop := fun xs H Q => rSortedI K xs H Q ∨ rSortedS K xs H Q ∨
  (∃ (a : Addr) (kvs : List (Key × V)) (ks : List Str), xs = [.ref a] ∧ Rd H a (.dK kvs) ∧ kvs.map (·.1) = ks.map Sum.inr ∧ ks.length < 64 ∧ ∀ ys p, ys.Perm ks → sortedS ys = true → H p = none → Q (.ref p) (upd H p (.lst (ys.map V.str)))) ∨
  ∃ (a : Addr) (kvs : List (Key × V)) (ks : List Int), xs = [.ref a] ∧ Rd H a (.dK kvs) ∧ kvs.map (·.1) = ks.map Sum.inl ∧ ks.length < 64 ∧ ∀ (ys : List Int) (p : Addr), ys.Perm ks → ys.Pairwise (· ≤ ·) → H p = none → Q (.ref p) (upd H p (.lst (ys.map V.int)))
theorem call_sortAll (hc : X.calm = true) : CallR X (.builtin "sorted") (rSortAll X.K) := CallR.or cr_sortedI (CallR.or cr_sortedS (CallR.or (call_sortedD hc) (call_sortedDI hc)))
theorem new_strs {K : Fr} {H H0 : Hp} {Z : Addr → Prop} {FP : Nat → List Addr} {Q : VK} {xs ys : List Str} {p : Addr} (zd : ∀ a, Z a → H a ≠ none) (s : Same H0 H) (hp : H p = none) (pm : ys.Perm xs) (so : sortedS ys = true)
    (q : ∀ v H' Z', Ext H Z H' Z' → ResOk K H0 H' Z' FP .ow (.lst ((srtS (xs.map tl)).map .str)) v → Q v H') : Q (.ref p) (upd H p (.lst (ys.map V.str))) := by
  have e := srtS_uniq (pm.map tl) (sortedS_pw ys so)
  have hr : RepL K H Z ((srtS (xs.map tl)).map D.str) (ys.map V.str) := by
    rw [← e]
    have := RepL.of_strs (K := K) (H := H) (Z := Z) (ys.map tl)
    rw [← strs_V, mkS_map_tl] at this
    exact this
  obtain ⟨Z', x1, x2⟩ := new_lst (FP := FP) zd s hp hr
  rw [lmo_strs] at x2
  exact q _ _ _ x1 x2
theorem new_ints {K : Fr} {H H0 : Hp} {Z : Addr → Prop} {FP : Nat → List Addr} {Q : VK} {xs ys : List Int} {p : Addr} (zd : ∀ a, Z a → H a ≠ none) (s : Same H0 H) (hp : H p = none) (pm : ys.Perm xs) (so : ys.Pairwise (· ≤ ·))
    (q : ∀ v H' Z', Ext H Z H' Z' → ResOk K H0 H' Z' FP .ow (.lst ((srtI xs).map .int)) v → Q v H') : Q (.ref p) (upd H p (.lst (ys.map V.int))) := by
  rw [srtI_uniq pm so]
  obtain ⟨Z', x1, x2⟩ := new_lst (FP := FP) zd s hp (RepL.of_ints (K := K) (Z := Z) (H := H) (srtI xs))
  rw [lmo_ints] at x2
  exact q _ _ _ x1 x2
theorem keys_ints {kvs : List (Key × V)} {ns : List Int} (h : (kvs.map fun p => keyD p.1) = ns.map D.int) : kvs.map (·.1) = ns.map Sum.inl := by
  induction kvs generalizing ns with
  | nil => cases ns <;> simp_all
  | cons p r ih =>
    cases ns with
    | nil => simp at h
    | cons n ns =>
      simp only [List.map_cons, List.cons.injEq] at h ⊢
      refine ⟨?_, ih h.2⟩
      rcases p with ⟨k | k, v⟩
      · have := h.1; simp only [keyD] at this; cases this; rfl
      · have := h.1; simp only [keyD] at this; cases this
theorem keys_strs {kvs : List (Key × V)} {ns : List (List Nat)} (h : (kvs.map fun p => keyD p.1) = ns.map D.str) : kvs.map (·.1) = (ns.map mkS).map Sum.inr := by
  induction kvs generalizing ns with
  | nil => cases ns <;> simp_all
  | cons p r ih =>
    cases ns with
    | nil => simp at h
    | cons n ns =>
      simp only [List.map_cons, List.cons.injEq] at h ⊢
      refine ⟨?_, ih h.2⟩
      rcases p with ⟨k | k, v⟩
      · have := h.1; simp only [keyD] at this; cases this
      · have := h.1; simp only [keyD, D.str.injEq] at this; rw [← this, mkS_tl]
theorem sort_ok : OpN X (rSortAll X.K) (on1 sortG) := OpN.of1 fun FP H0 H Z Q a c x s zd r1 e q => by
  obtain ⟨m, d⟩ := a
  have r1 := r1.read
  unfold sortG at e
  split at e
  · rename_i ds h
    rw [Option.map_eq_some_iff] at e
    obtain ⟨l, e1, e2⟩ := e
    subst e2
    simp only at h r1
    subst h
    obtain ⟨a, xs, e3, q1, l1⟩ := lst_read r1
    subst e3
    unfold sortL at e1
    split at e1
    · rename_i ns hn
      cases e1
      rw [ints?_eq hn] at l1
      rw [l1.ints] at q1
      exact .inl ⟨a, ns, rfl, .inl (.inl q1), fun ys p pm so hp => new_ints zd s hp pm so q⟩
    · split at e1
      · rename_i ns hn
        split at e1 <;> cases e1
        rename_i h64
        rw [strs?_eq hn] at l1
        rw [l1.strs, ← strs_V] at q1
        refine .inr (.inl ⟨a, ns.map mkS, rfl, .inl (.inl q1), by rw [List.length_map]; exact h64, fun ys p pm so hp => new_strs (K := X.fr) (FP := FP) (Z := Z) zd s hp pm so ?_⟩)
        rw [tl_map_mkS]
        exact q
      · cases e1
  · rename_i ks vs h
    split at e
    · rename_i h64
      rw [Option.map_eq_some_iff] at e
      obtain ⟨l, e1, e2⟩ := e
      subst e2
      simp only at h r1
      subst h
      obtain ⟨a, kvs, e3, q1, e4, l1⟩ := dic_read r1
      subst e3
      unfold sortL at e1
      split at e1
      · rename_i ns hn
        cases e1
        have hk := ints?_eq hn
        rw [e4] at hk
        exact .inr (.inr (.inr ⟨a, kvs, ns, rfl, q1, keys_ints hk, by have := congrArg List.length (ints?_eq hn); rw [List.length_map] at this; omega, fun ys p pm so hp => new_ints zd s hp pm so q⟩))
      · split at e1
        · rename_i ns hn
          split at e1 <;> cases e1
          rename_i h642
          have hk := strs?_eq hn
          rw [e4] at hk
          refine .inr (.inr (.inl ⟨a, kvs, ns.map mkS, rfl, q1, keys_strs hk, by rw [List.length_map]; exact h642, fun ys p pm so hp => new_strs (K := X.fr) (FP := FP) (Z := Z) zd s hp pm so ?_⟩))
          rw [tl_map_mkS]
          exact q
        · cases e1
    · cases e
  · cases e
end
end Pi

set_option Elab.async false
set_option linter.all false
set_option maxRecDepth 100000
set_option maxHeartbeats 4000000
/-! Pi5: isinstance, methods, subscripts, slices. -/
namespace Pi
open PySem PySem.Spec PyProof.Rows L2

/-! ### isinstance -/
inductive Ty where
  | int | bool | str | tup | lst | dic
  deriving DecidableEq
def Ty.name : Ty → String
  | .int => "int" | .bool => "bool" | .str => "str" | .tup => "tuple" | .lst => "list" | .dic => "dict"
def isiD : D → Ty → Option Bool
  | .non, _ => some false
  | .bl _, .bool => some true
  | .bl _, .int => some true
  | .bl _, _ => some false
  | .int _, t => some (decide (t = .int))
  | .str _, t => some (decide (t = .str))
  | .tup _, t => some (decide (t = .tup))
  | .lst _, t => some (decide (t = .lst))
  | .dic k _ _, t => if k = 0 then some (decide (t = .dic)) else none
  | .scr _, _ => none
def isiG (t : Ty) (a : Mo × D) : Option (Mo × D) := (isiD a.2 t).map fun k => (.fz, .bl k)
section
variable {X : Cx}
theorem kt (a : String) (t : Ty) (b : Bool) (h : kitB a t.name = some b) : PySem.W.kitOne X.K (.type a) (.type t.name) = some b := kit_ty h
theorem dic_ty {K : Fr} {H : Hp} {Z : Addr → Prop} {ks vs : List D} {v : V} {t : Ty} {b : Bool} (r : Rep K H Z (.dic 0 ks vs) v) (h : some (decide (t = .dic)) = some b) : ∃ T, TyX K.K H v (.type T) ∧ kitB T t.name = some b := by
  obtain ⟨a, kvs, e, q, _⟩ := dic_read r
  subst e
  have : TyX K.K H (.ref a) (.type "dict") := by
    rcases q with q | ⟨o, q⟩
    · exact .base (.dK q)
    · exact .fDict q
  refine ⟨_, this, ?_⟩
  cases t <;> cases h <;> decide +kernel
theorem ty_rep {K : Fr} {H : Hp} {Z : Addr → Prop} {d : D} {v : V} {t : Ty} {b : Bool} (r : Rep K H Z d v) (h : isiD d t = some b) : ∃ T, TyX K.K H v (.type T) ∧ kitB T t.name = some b := by
  cases d with
  | non =>
    simp only [Rep] at r
    subst r
    refine ⟨_, .base .non, ?_⟩
    cases h
    cases t <;> decide +kernel
  | bl k =>
    simp only [Rep] at r
    subst r
    refine ⟨_, .base (.bl k), ?_⟩
    cases t <;> cases h <;> decide +kernel
  | int k =>
    simp only [Rep] at r
    subst r
    refine ⟨_, .base (.int k), ?_⟩
    cases t <;> cases h <;> decide +kernel
  | str k =>
    simp only [Rep] at r
    subst r
    refine ⟨_, .base (.str _), ?_⟩
    cases t <;> cases h <;> decide +kernel
  | tup ds =>
    obtain ⟨a, xs, e, q, _⟩ := tup_rep r
    subst e
    have : TyX K.K H (.ref a) (.type "tuple") := by
      rcases q with (q | ⟨o, q⟩) | ⟨o, its, n, q, c, _⟩
      · exact .base (.tup q)
      · exact .fTuple q
      · exact .kTuple q c
    refine ⟨_, this, ?_⟩
    cases t <;> cases h <;> decide +kernel
  | lst ds =>
    obtain ⟨a, xs, e, q, _⟩ := lst_read r
    subst e
    refine ⟨_, .base (.lst q), ?_⟩
    cases t <;> cases h <;> decide +kernel
  | dic k ks vs =>
    have h : (if k = 0 then some (decide (t = .dic)) else none) = some b := h
    split at h
    · rename_i hk
      subst hk
      exact dic_ty r h
    · cases h

  | scr ns => cases h
/-- isinstance(e, T), by the values -/
theorem isi_ok (t : Ty) : ∀ (FP : Nat → List Addr) (H0 H : Hp) (Z : Addr → Prop) (Q : VK) (a c : Mo × D) (x : V), ResOk X.fr H0 H Z FP a.1 a.2 x → isiG t a = some c →
      (∀ v H' Z', Ext H Z H' Z' → ResOk X.fr H0 H' Z' FP c.1 c.2 v → Q v H') → rIsi X.K [x, .ty t.name] H Q := fun FP H0 H Z Q a c x r1 e q => by
  unfold isiG at e
  rw [Option.map_eq_some_iff] at e
  obtain ⟨k, e1, e2⟩ := e
  subst e2
  obtain ⟨T, h1, h2⟩ := ty_rep r1.read e1
  exact ⟨x, _, _, _, k, rfl, .ty _, h1, kit_ty h2, q _ H Z .refl fz_bl⟩
end

/-! ### texts -/
def splitC (c : Nat) : List Nat → List (List Nat)
  | [] => [[]]
  | x :: r => if x = c then [] :: splitC c r else match splitC c r with
    | h :: t => (x :: h) :: t
    | [] => [[x]]
theorem splitC_ne (c : Nat) : ∀ l, splitC c l ≠ []
  | [] => by simp [splitC]
  | x :: r => by
    unfold splitC
    split
    · simp
    · split <;> simp
theorem pre_one (c x : Nat) (r : List Nat) : TL.pre [c] (x :: r) = decide (x = c) := by
  unfold TL.pre
  simp [Bool.beq_eq_decide_eq]
theorem spl_splitC (c : Nat) : ∀ (l acc : List Nat), TL.spl [c] 0 acc l = match splitC c l with
    | h :: t => (acc ++ h) :: t
    | [] => []
  | [], acc => by simp [splitC, TL.spl_nil]
  | x :: r, acc => by
    by_cases h : x = c
    · rw [TL.spl_hit (by rw [pre_one]; simp [h])]
      show acc :: TL.spl [c] 0 [] r = _
      rw [spl_splitC c r [], show splitC c (x :: r) = [] :: splitC c r from if_pos h]
      have := splitC_ne c r
      cases hs : splitC c r with
      | nil => exact absurd hs this
      | cons a b => simp
    · rw [TL.spl_miss (by rw [pre_one]; simp [h]), spl_splitC c r]
      conv => rhs; unfold splitC
      rw [if_neg h]
      have := splitC_ne c r
      split <;> simp_all
theorem kind_one {c : Nat} (h : c < 256) (x : Str) : ¬ Builtin.Str.strKind x < Builtin.Str.strKind (mkS [c]) := by
  have e : Builtin.Str.strKind (mkS [c]) = 1 := by
    unfold Builtin.Str.strKind
    rw [if_pos (by simp [mkS, h])]
  rw [e]
  unfold Builtin.Str.strKind
  split
  · omega
  · split <;> omega
def splitG (a b : Mo × D) : Option (Mo × D) := match a.2, b.2 with
  | .str s, .str [c] => if c < 256 ∧ s.length + 2 ≤ sizeLine then some (.ow, .lst ((splitC c s).map .str)) else none
  | _, _ => none
def sumLen (l : List (List Nat)) : Nat := (l.map (·.length)).sum
def joinG (a b : Mo × D) : Option (Mo × D) := match a.2, b.2 with
  | .str s, .lst ds => match strs? ds with
    | some l => if sumLen l + l.length * s.length ≤ 16777216 then some (.fz, .str (TL.joinL s l)) else none
    | none => none
  | .str s, .tup ds => match strs? ds with
    | some l => if sumLen l + l.length * s.length ≤ 16777216 then some (.fz, .str (TL.joinL s l)) else none
    | none => none
  | _, _ => none
/-- index: the first place of an equal one -/
def idxL (l : List PyData) (d : PyData) : Option Nat := match l with
  | [] => none
  | z :: r => if PyData.eqv z d = true then some 0 else (idxL r d).map (· + 1)
def indexG (a b : Mo × D) : Option (Mo × D) := match a.2 with
  | .lst ds => match toPyS (.lst ds), toPyS b.2 with
    | some (.list l), some d => (idxL l d).map fun j => (.fz, .int (j : Nat))
    | _, _ => none
  | _ => none
/-- r, a rule of a method with one argument, serves g -/
def OpM1 (X : Cx) (r : V → List V → Hp → VK → Prop) (g : Mo × D → Mo × D → Option (Mo × D)) : Prop :=
  ∀ (FP : Nat → List Addr) (H0 H : Hp) (Z : Addr → Prop) (Q : VK) (a b c : Mo × D) (x y : V), Same H0 H → (∀ a, Z a → H a ≠ none) → ResOk X.fr H0 H Z FP a.1 a.2 x → ResOk X.fr H0 H Z FP b.1 b.2 y → g a b = some c →
      (∀ v H' Z', Ext H Z H' Z' → ResOk X.fr H0 H' Z' FP c.1 c.2 v → Q v H') → r x [y] H Q
section
variable {X : Cx}
theorem split_ok : OpM1 X (fun x xs H Q => ∃ a b, x = .str a ∧ xs = [.str b] ∧ (b.length == 0) = false ∧ a.length + 2 ≤ sizeLine ∧ rNewStrs (Txt.split a b) H Q) splitG := fun FP H0 H Z Q a b c x y s zd r1 r2 e q => by
  obtain ⟨m1, d1⟩ := a
  obtain ⟨m2, d2⟩ := b
  unfold splitG at e
  split at e
  · rename_i t k h1 h2
    split at e <;> cases e
    rename_i hl
    simp only at h1 h2
    subst h1 h2
    have r1 := r1.atom rfl
    have r2 := r2.atom rfl
    simp only [Rep] at r1 r2
    subst r1 r2
    refine ⟨_, _, rfl, rfl, by rw [mkS_length]; rfl, by rw [mkS_length]; exact hl.2, fun p hp => ?_⟩
    have e1 : (Txt.split (mkS t) (mkS [k])).map TL.tl = splitC k t := by
      rw [TL.split_spl _ _ (by simp [mkS]) (kind_one hl.1 _)]
      show TL.spl [k] 0 [] t = _
      rw [spl_splitC]
      have := splitC_ne k t
      cases hs : splitC k t with
      | nil => exact absurd hs this
      | cons a b => simp
    have hr : RepL X.fr H Z ((splitC k t).map D.str) ((Txt.split (mkS t) (mkS [k])).map V.str) := by
      rw [← e1]
      have := RepL.of_strs (K := X.fr) (H := H) (Z := Z) ((Txt.split (mkS t) (mkS [k])).map tl)
      rw [← strs_V, mkS_map_tl] at this
      exact this
    obtain ⟨Z', x1, x2⟩ := new_lst (FP := FP) zd s hp hr
    rw [lmo_strs] at x2
    exact q _ _ _ x1 x2
  · cases e
theorem join_fin {H : Hp} {Z : Addr → Prop} {Q : VK} {H0 : Hp} {FP : Nat → List Addr} {t : List Nat} {l : List (List Nat)} (q : ∀ v H' Z', Ext H Z H' Z' → ResOk X.fr H0 H' Z' FP .fz (.str (TL.joinL t l)) v → Q v H') : Q (.str (Txt.join (mkS t) (l.map mkS))) H := by
  have e1 : Txt.join (mkS t) (l.map mkS) = mkS (TL.joinL t l) := by
    rw [TL.join_eq]
    have := TL.tl_join (mkS t) (l.map mkS)
    rw [show (l.map mkS).map TL.tl = l from tl_map_mkS l] at this
    rw [← mkS_tl (Str.join (mkS t) (l.map mkS))]
    exact congrArg mkS this
  rw [e1]
  exact q _ H Z .refl fz_str
theorem sumLen_mk (l : List (List Nat)) : ((l.map mkS).map (·.length)).sum = sumLen l := by
  unfold sumLen
  rw [List.map_map]
  exact congrArg List.sum (List.map_congr_left fun s _ => mkS_length s)
theorem join_ok : OpM1 X (fun x xs H Q => ∃ a p, ∃ ys : List Str, x = .str a ∧ xs = [.ref p] ∧ (SqL X.K H p (ys.map V.str) ∨ SqT X.K H p (ys.map V.str)) ∧ (ys.map (·.length)).sum + ys.length * a.length ≤ 16777216 ∧ Q (.str (Txt.join a ys)) H) joinG := fun FP H0 H Z Q a b c x y s zd r1 r2 e q => by
  obtain ⟨m1, d1⟩ := a
  obtain ⟨m2, d2⟩ := b
  unfold joinG at e
  have r2 := r2.read
  split at e
  · rename_i t ds h1 h2
    simp only at h1 h2 r2
    subst h1 h2
    split at e
    · rename_i l hl
      split at e <;> cases e
      rename_i hz
      have r1 := r1.atom rfl
      simp only [Rep] at r1
      subst r1
      obtain ⟨a, xs, e3, q1, l1⟩ := lst_read r2
      subst e3
      rw [strs?_eq hl] at l1
      rw [l1.strs, ← strs_V] at q1
      refine ⟨_, a, l.map mkS, rfl, rfl, .inl (.inl (.inl q1)), by rw [sumLen_mk, List.length_map, mkS_length]; exact hz, join_fin q⟩
    · cases e
  · rename_i t ds h1 h2
    simp only at h1 h2 r2
    subst h1 h2
    split at e
    · rename_i l hl
      split at e <;> cases e
      rename_i hz
      have r1 := r1.atom rfl
      simp only [Rep] at r1
      subst r1
      obtain ⟨a, xs, e3, q1, l1⟩ := tup_rep r2
      subst e3
      rw [strs?_eq hl] at l1
      rw [l1.strs, ← strs_V] at q1
      refine ⟨_, a, l.map mkS, rfl, rfl, .inr q1, by rw [sumLen_mk, List.length_map, mkS_length]; exact hz, join_fin q⟩
    · cases e
  · cases e
theorem idxL_some : ∀ {l : List PyData} {d : PyData} {j : Nat}, idxL l d = some j → ∃ z, l[j]? = some z ∧ PyData.eqv z d = true ∧ ∀ (m : Nat) (z' : PyData), m < j → l[m]? = some z' → PyData.eqv z' d = false
  | [], _, _, h => by cases h
  | z :: r, d, j, h => by
    unfold idxL at h
    split at h
    · rename_i hz
      cases h
      exact ⟨z, rfl, hz, fun m z' hm _ => absurd hm (Nat.not_lt_zero _)⟩
    · rename_i hz
      rw [Option.map_eq_some_iff] at h
      obtain ⟨k, h1, h2⟩ := h
      subst h2
      obtain ⟨z2, h3, h4, h5⟩ := idxL_some h1
      refine ⟨z2, by simpa using h3, h4, fun m z' hm e => ?_⟩
      cases m with
      | zero =>
        simp only [List.getElem?_cons_zero, Option.some.injEq] at e
        rw [← e]
        simpa using hz
      | succ m => exact h5 m z' (by omega) (by simpa using e)
theorem index_ok : OpM1 X (rIndexD X.K) indexG := fun FP H0 H Z Q a b c x y s zd r1 r2 e q => by
  obtain ⟨m1, d1⟩ := a
  have r1 := r1.read
  have r2 := r2.read
  unfold indexG at e
  split at e
  · rename_i ds h1
    simp only at h1 r1
    subst h1
    split at e
    · rename_i l d e1 e2
      rw [Option.map_eq_some_iff] at e
      obtain ⟨j, e3, e4⟩ := e
      subst e4
      obtain ⟨e1, s1⟩ := toPyS_some e1
      obtain ⟨e2, s2⟩ := toPyS_some e2
      obtain ⟨z, z1, z2, z3⟩ := idxL_some e3
      have dp := toPy_dp _ _ _ r1 e1
      obtain ⟨a, xs, e5, q1, l1⟩ := lst_read r1
      subst e5
      exact ⟨a, y, d, l, j, z, rfl, rfl, dp, toPy_dp _ _ _ r2 e2, s1, s2, z1, z2, z3, q _ H Z .refl fz_int⟩
    · cases e
  · cases e
end

/-! ### dicts (kind 0) -/
mutual
def beqK : D → D → Bool
  | .non, .non => true
  | .int i, .int j => decide (i = j)
  | .str s, .str t => decide (s = t)
  | .tup a, .tup b => beqKs a b
  | _, _ => false
def beqKs : List D → List D → Bool
  | [], [] => true
  | a :: r, b :: t => beqK a b && beqKs r t
  | _, _ => false
end
def dlook : List D → List D → D → Option D
  | k :: ks, v :: vs, x => if beqK k x = true then some v else dlook ks vs x
  | _, _, _ => none
/-- a key of kind 0 -/
def D.key : D → Option Key
  | .int i => some (.inl i)
  | .str s => some (.inr (mkS s))
  | _ => none
theorem key_rep {K : Fr} {H : Hp} {Z : Addr → Prop} {d : D} {k : Key} {v : V} (h : d.key = some k) (r : Rep K H Z d v) : v = kV k ∧ d = keyD k := by
  cases d <;> first | (cases h; done) | skip
  · cases h
    simp only [Rep] at r
    exact ⟨r, rfl⟩
  · cases h
    simp only [Rep] at r
    exact ⟨r, rfl⟩
theorem beqK_key (k k' : Key) : beqK (keyD k) (keyD k') = decide (k = k') := by
  cases k with
  | inl i => cases k' with
    | inl j => simp [keyD, beqK]
    | inr y => simp [keyD, beqK]
  | inr x => cases k' with
    | inl j => simp [keyD, beqK]
    | inr y =>
      simp only [keyD, beqK]
      rw [decide_eq_decide]
      exact ⟨fun h => by rw [← mkS_tl x, ← mkS_tl y]; exact congrArg (fun z => Sum.inr (mkS z)) h, fun h => by cases h; rfl⟩
theorem dlook_val {K : Fr} {H : Hp} {Z : Addr → Prop} (k : Key) : ∀ (kvs : List (Key × V)) (vs : List D), RepL K H Z vs (kvs.map (·.2)) →
    match dlook (kvs.map fun p => keyD p.1) vs (keyD k) with
    | some d => ∃ v, valV kvs k = some v ∧ Rep K H Z d v
    | none => valV kvs k = none
  | [], vs, h => by
    simp only [List.map_nil, dlook]
    rfl
  | p :: r, [], h => by simp [RepL] at h
  | p :: r, d :: vs, h => by
    simp only [List.map_cons, RepL] at h
    obtain ⟨v, t, e, h1, h2⟩ := h
    simp only [List.cons.injEq] at e
    obtain ⟨e1, e2⟩ := e
    subst e2
    simp only [List.map_cons, dlook, beqK_key]
    by_cases hk : p.1 = k
    · rw [if_pos (by simpa using hk)]
      exact ⟨p.2, valV_pos hk, by rw [e1]; exact h1⟩
    · rw [if_neg (by simpa using hk), valV_neg hk]
      exact dlook_val k r vs h2
/-- values may be read out -/
def dvOk (m : Mo) (vs : List D) : Bool := decide (m = .fz) || vs.all D.atom
theorem RepL.all_atoms {K : Fr} {H : Hp} {Z Z' : Addr → Prop} : ∀ {vs : List D} {xs : List V} {F : List Addr}, vs.all D.atom = true → OwnL K H Z vs F xs → RepL K H Z vs xs := fun ha h => (atoms_ownL ha h).2
/-- a dict that is only read: with its values as data of Z -/
theorem ResOk.dict {K : Fr} {H H0 : Hp} {Z : Addr → Prop} {FP : Nat → List Addr} {m : Mo} {ks vs : List D} {v : V} (h : ResOk K H0 H Z FP m (.dic 0 ks vs) v) (e : dvOk m vs = true) :
    ∃ a kvs, v = .ref a ∧ Rd H a (.dK kvs) ∧ ks = kvs.map (fun p => keyD p.1) ∧ RepL K H Z vs (kvs.map (·.2)) := by
  have key : ∀ G, Own K H Z (.dic 0 ks vs) G v → vs.all D.atom = true → ∃ a kvs, v = .ref a ∧ Rd H a (.dK kvs) ∧ ks = kvs.map (fun p => keyD p.1) ∧ RepL K H Z vs (kvs.map (·.2)) := fun G o ha => by
    simp only [Own, DcOwn] at o
    obtain ⟨a, xs, G', e, _, ⟨kvs, q, ek, ex⟩, _, _, r⟩ := o
    subst ex
    exact ⟨a, kvs, e, .inl q, ek, (atoms_ownL ha r).2⟩
  unfold dvOk at e
  rw [Bool.or_eq_true, decide_eq_true_eq] at e
  cases m with
  | fz => exact dic_read h
  | ow =>
    obtain ⟨G, o, _⟩ := h
    exact key G o (e.resolve_left (fun z => by cases z))
  | bo =>
    obtain ⟨G, o, _⟩ := h
    exact key G o (e.resolve_left (fun z => by cases z))
theorem dget_res {K : Fr} {H H0 : Hp} {Z : Addr → Prop} {FP : Nat → List Addr} {m m2 : Mo} {ks vs : List D} {x : D} {d y : V} (r1 : ResOk K H0 H Z FP m (.dic 0 ks vs) d) (e : dvOk m vs = true) (r2 : ResOk K H0 H Z FP m2 x y) (hk : x.key.isSome = true) :
    ∃ a, d = .ref a ∧ IsD H a ∧ match dlook ks vs x with
      | some e => ∃ v, DGet H a y (some v) ∧ Rep K H Z e v
      | none => DGet H a y none := by
  obtain ⟨a, kvs, e1, q1, e2, l1⟩ := r1.dict e
  obtain ⟨k, hk⟩ := Option.isSome_iff_exists.mp hk
  obtain ⟨e3, e4⟩ := key_rep hk r2.read
  refine ⟨a, e1, .inl ⟨kvs, q1⟩, ?_⟩
  have := dlook_val k kvs vs l1
  rw [e2, e4]
  split at this
  · rename_i d hd
    obtain ⟨v, h1, h2⟩ := this
    exact ⟨v, .inl ⟨kvs, k, q1, e3, h1.symm⟩, h2⟩
  · rename_i hd
    exact .inl ⟨kvs, k, q1, e3, this.symm⟩

/-! ### subscripts -/
def ixG (a b : Mo × D) : Option (Mo × D) := match a.2, b.2 with
  | .lst ds, .int i => if elOk a.1 ds = true then (atI ds i).map fun d => (.fz, d) else none
  | .tup ds, .int i => (atI ds i).map fun d => (.fz, d)
  | .str s, .int i => if s.length ≤ sizeLine then (atI s i).map fun c => (.fz, .str [c]) else none
  | .dic 0 ks vs, x => if dvOk a.1 vs = true ∧ x.key.isSome = true then (dlook ks vs x).map fun d => (.fz, d) else none
  | _, _ => none
def rIxDG : R2 := fun x y H Q => ∃ a v, x = .ref a ∧ DGet H a y (some v) ∧ Q v H
def rIxAll (K : PySem.W.Frag) : R2 := fun x y H Q => rIx K x y H Q ∨ rIxDG x y H Q
theorem RepL.atI {K : Fr} {H : Hp} {Z : Addr → Prop} {ds : List D} {xs : List V} {i : Int} {d : D} (h : RepL K H Z ds xs) (e : L2.atI ds i = some d) : ∃ v, L2.atI xs i = some v ∧ Rep K H Z d v := by
  unfold L2.atI at e ⊢
  rw [h.length]
  rw [Option.bind_eq_some_iff] at e
  obtain ⟨j, h1, h2⟩ := e
  obtain ⟨v, h3, h4⟩ := h.get h2
  exact ⟨v, by rw [h1]; exact h3, h4⟩
section
variable {X : Cx}
theorem ix_dG (hu : X.A.units + 1 < cLine) : IxR X rIxDG := by
  intro value slice pins s σ H x y v u Q I rx ry h hs
  obtain ⟨a, z, e, g, q⟩ := h
  subst e
  obtain rfl : v = Value.ref a := rx
  exact tail_any (dict_typeIs I g) slot_dict_getitem.lookup (d_getItem hu I g ry fun w' s' I' rw' => ⟨z, H, I', rw', q⟩) hs
theorem ix_all (hu : X.A.units + 1 < cLine) : IxR X (rIxAll X.K) := IxR.or ix_seq (ix_dG hu)
theorem ix_ok : Op2 X (rIxAll X.K) (op2 ixG) := Op2.of fun FP H0 H Z Q a b c x y s zd r1 r2 e q => by
  obtain ⟨m1, d1⟩ := a
  obtain ⟨m2, d2⟩ := b
  unfold ixG at e
  split at e
  · rename_i ds i h1 h2
    split at e
    · rename_i hl
      rw [Option.map_eq_some_iff] at e
      obtain ⟨d, e1, e2⟩ := e
      subst e2
      simp only at h1 h2 hl
      subst h1 h2
      have r2 := r2.atom rfl
      simp only [Rep] at r2
      subst r2
      obtain ⟨a, xs, e3, q1, l1⟩ := r1.items hl
      subst e3
      obtain ⟨v, h3, h4⟩ := l1.atI e1
      exact .inl (.inl ⟨a, xs, i, v, rfl, rfl, .inl (.inl q1), h3, q _ H Z .refl h4⟩)
    · cases e
  · rename_i ds i h1 h2
    rw [Option.map_eq_some_iff] at e
    obtain ⟨d, e1, e2⟩ := e
    subst e2
    simp only at h1 h2
    subst h1 h2
    have r2 := r2.atom rfl
    simp only [Rep] at r2
    subst r2
    obtain ⟨a, xs, e3, q1, l1⟩ := tup_rep (r1.atom rfl)
    subst e3
    obtain ⟨v, h3, h4⟩ := l1.atI e1
    exact .inl (.inr (.inl ⟨a, xs, i, v, rfl, rfl, q1, h3, q _ H Z .refl h4⟩))
  · rename_i t i h1 h2
    split at e
    · rename_i hl
      rw [Option.map_eq_some_iff] at e
      obtain ⟨d, e1, e2⟩ := e
      subst e2
      simp only at h1 h2
      subst h1 h2
      have r1 := r1.atom rfl
      have r2 := r2.atom rfl
      simp only [Rep] at r1 r2
      subst r1 r2
      exact .inl (.inr (.inr ⟨mkS t, i, d, rfl, rfl, by rw [mkS_length]; exact hl, e1, q _ H Z .refl fz_str⟩))
    · cases e
  · rename_i x' ks vs h1
    split at e
    · rename_i hl
      rw [Option.map_eq_some_iff] at e
      obtain ⟨d, e1, e2⟩ := e
      subst e2
      simp only at h1 hl
      subst h1
      obtain ⟨a, e3, _, g⟩ := dget_res r1 hl.1 r2 hl.2
      rw [e1] at g
      obtain ⟨v, g1, g2⟩ := g
      exact .inr ⟨a, v, e3, g1, q _ H Z .refl g2⟩
    · cases e
  · cases e
end

/-! ### slices -/
def cutD {α : Type} (l : List α) (lo hi : Option Int) : List α := (l.drop (HT.sIx l.length 0 lo)).take (HT.sIx l.length l.length hi - HT.sIx l.length 0 lo)
def slG (a : Mo × D) (lo hi : Option Int) : Option (Mo × D) := match a.2 with
  | .lst ds => if elOk a.1 ds = true then some (lmo (cutD ds lo hi), .lst (cutD ds lo hi)) else none
  | .tup ds => some (.fz, .tup (cutD ds lo hi))
  | .str s => if s.length ≤ sizeLine then some (.fz, .str (cutD s lo hi)) else none
  | .scr ns => some (.ow, .lst ((cutD ns lo hi).map .int))
  | _ => none
def rSlAll (K : PySem.W.Frag) : V → Option Int → Option Int → Hp → VK → Prop := fun x lo hi H Q => rSlL K x lo hi H Q ∨ rSlA K x lo hi H Q ∨ rSlS x lo hi H Q
section
variable {X : Cx}
theorem sl_all : SlR X (rSlAll X.K) := SlR.or sl_list (SlR.or sl_tupA sl_str)
theorem RepL.cut {K : Fr} {H : Hp} {Z : Addr → Prop} {ds : List D} {xs : List V} (h : RepL K H Z ds xs) (lo hi : Option Int) : RepL K H Z (cutD ds lo hi) (cutV xs lo hi) := by
  unfold cutD cutV
  rw [h.length]
  exact (h.drop _).take _
theorem sl_ok {FP : Nat → List Addr} {H0 H : Hp} {Z : Addr → Prop} {Q : VK} {a c : Mo × D} {x : V} {lo hi : Option Int} (s : Same H0 H) (zd : ∀ a, Z a → H a ≠ none) (r1 : ResOk X.fr H0 H Z FP a.1 a.2 x) (e : slG a lo hi = some c)
    (q : ∀ v H' Z', Ext H Z H' Z' → ResOk X.fr H0 H' Z' FP c.1 c.2 v → Q v H') : rSlAll X.K x lo hi H Q := by
  obtain ⟨m1, d1⟩ := a
  unfold slG at e
  split at e
  · rename_i ds h1
    split at e <;> cases e
    rename_i hl
    simp only at h1 hl
    subst h1
    obtain ⟨a, xs, e3, q1, l1⟩ := r1.items hl
    refine .inl ⟨a, xs, e3, .inl (.inl q1), fun p hp => ?_⟩
    obtain ⟨Z', x1, x2⟩ := new_lst (FP := FP) zd s hp (l1.cut lo hi)
    exact q _ _ _ x1 x2
  · rename_i ds h1
    cases e
    simp only at h1
    subst h1
    obtain ⟨a, xs, e3, q1, l1⟩ := tup_rep (r1.atom rfl)
    refine .inr (.inl ⟨a, xs, e3, q1, fun w => ?_, fun _ p hp => ?_⟩)
    · refine q _ H Z .refl ?_
      have e0 : cutD ds lo hi = ds := by
        unfold cutD
        rw [← l1.length, w.1, w.2, List.drop_zero, Nat.sub_zero]
        exact List.take_of_length_le (by rw [l1.length]; exact Nat.le_refl _)
      rw [e0, ← e3]
      exact r1.atom rfl
    · obtain ⟨x1, x2⟩ := new_tup hp (l1.cut lo hi)
      exact q _ _ _ x1 x2
  · rename_i t h1
    split at e <;> cases e
    rename_i hl
    simp only at h1
    subst h1
    have r1 := r1.atom rfl
    simp only [Rep] at r1
    refine .inr (.inr ⟨mkS t, r1, by rw [mkS_length]; exact hl, ?_⟩)
    have e0 : cutS (mkS t) lo hi = mkS (cutD t lo hi) := by
      unfold cutS cutD
      rw [mkS_length]
      rfl
    rw [e0]
    exact q _ H Z .refl fz_str
  · rename_i ns h1
    cases e
    simp only at h1
    subst h1
    have r1 := r1.atom rfl
    simp only [Rep] at r1
    obtain ⟨a, e3, q1, _⟩ := r1
    refine .inl ⟨a, _, e3, q1, fun p hp => ?_⟩
    obtain ⟨Z', x1, x2⟩ := new_lst (FP := FP) zd s hp ((RepL.of_ints (K := X.fr) (H := H) (Z := Z) ns).cut lo hi)
    have e0 : cutD (ns.map D.int) lo hi = (cutD ns lo hi).map D.int := by
      unfold cutD
      rw [List.length_map, ← List.map_drop, ← List.map_take]
    rw [e0, lmo_ints] at x2
    exact q _ _ _ x1 x2
  · cases e
def revG (a : Mo × D) : Option (Mo × D) := match a.2 with
  | .lst ds => if elOk a.1 ds = true then some (lmo ds.reverse, .lst ds.reverse) else none
  | _ => none
theorem rev_ok {FP : Nat → List Addr} {H0 H : Hp} {Z : Addr → Prop} {Q : VK} {a c : Mo × D} {x : V} (s : Same H0 H) (zd : ∀ a, Z a → H a ≠ none) (r1 : ResOk X.fr H0 H Z FP a.1 a.2 x) (e : revG a = some c)
    (q : ∀ v H' Z', Ext H Z H' Z' → ResOk X.fr H0 H' Z' FP c.1 c.2 v → Q v H') : ∃ a xs, x = .ref a ∧ SqL X.K H a xs ∧ ∀ p, H p = none → Q (.ref p) (upd H p (.lst xs.reverse)) := by
  obtain ⟨m1, d1⟩ := a
  unfold revG at e
  split at e
  · rename_i ds h1
    split at e <;> cases e
    rename_i hl
    simp only at h1 hl
    subst h1
    obtain ⟨a, xs, e3, q1, l1⟩ := r1.items hl
    refine ⟨a, xs, e3, .inl (.inl q1), fun p hp => ?_⟩
    obtain ⟨Z', x1, x2⟩ := new_lst (FP := FP) zd s hp l1.reverse
    exact q _ _ _ x1 x2
  · cases e
end
end Pi

set_option Elab.async false
set_option linter.all false
set_option maxRecDepth 100000
set_option maxHeartbeats 4000000
/-! Pi6: dicts that have None among their keys (kind 2); in for dicts. -/
namespace Pi
open PySem PySem.Spec PyProof.Rows L2

/-- a key of kind 2 -/
def D.nkey : D → Option (Option Key)
  | .non => some none
  | d => d.key.map some
def nkV : Option Key → V
  | none => .non
  | some k => kV k
theorem nkey_rep {K : Fr} {H : Hp} {Z : Addr → Prop} {d : D} {k : Option Key} {v : V} (h : d.nkey = some k) (r : Rep K H Z d v) : v = nkV k ∧ d = nkD k := by
  cases d <;> simp only [D.nkey, D.key, Option.map_some, Option.map_none, Option.some.injEq] at h <;> first | (cases h; done) | (subst h; simp only [Rep] at r; exact ⟨r, rfl⟩)
theorem nkV_is {P : Program} {w : World} {k : Option Key} {u : Value} (r : RelV (nkV k) u) : (noneKind P w).is k u = true := by
  cases k with
  | none => cases (show u = Value.none from r); rfl
  | some k => exact kV_is (P := P) (w := w) r
theorem beqK_nkey (k k' : Option Key) : beqK (nkD k) (nkD k') = decide (k = k') := by
  cases k with
  | none =>
    cases k' with
    | none => simp [nkD, beqK]
    | some b => rcases b with b | b <;> simp [nkD, keyD, beqK]
  | some a =>
    cases k' with
    | none => rcases a with a | a <;> simp [nkD, keyD, beqK]
    | some b =>
      show beqK (keyD a) (keyD b) = _
      rw [beqK_key, decide_eq_decide]
      exact ⟨fun h => by rw [h], fun h => Option.some.inj h⟩
theorem nlook_val {K : Fr} {H : Hp} {Z : Addr → Prop} (k : Option Key) : ∀ (kvs : List (Option Key × V)) (vs : List D), RepL K H Z vs (kvs.map (·.2)) →
    match dlook (kvs.map fun p => nkD p.1) vs (nkD k) with
    | some d => ∃ v, valV kvs k = some v ∧ Rep K H Z d v
    | none => valV kvs k = none
  | [], vs, h => by
    simp only [List.map_nil, dlook]
    rfl
  | p :: r, [], h => by simp [RepL] at h
  | p :: r, d :: vs, h => by
    simp only [List.map_cons, RepL] at h
    obtain ⟨v, t, e, h1, h2⟩ := h
    simp only [List.cons.injEq] at e
    obtain ⟨e1, e2⟩ := e
    subst e2
    simp only [List.map_cons, dlook, beqK_nkey]
    by_cases hk : p.1 = k
    · rw [if_pos (by simpa using hk)]
      exact ⟨p.2, valV_pos hk, by rw [e1]; exact h1⟩
    · rw [if_neg (by simpa using hk), valV_neg hk]
      exact nlook_val k r vs h2
section
variable {X : Cx} {pins : List (Addr × Obj)} {σ : L2.St} {H : Hp} {s : Shared} {a : Addr} {kvs : List (Option Key × V)} {k : Option Key} {u r : Value} {v : V} {E : Value → Shared → Prop}
theorem nd_of (I : Inv X pins σ H s) (e : H a = some (ND X.fr a kvs)) : kvs.length ≤ sizeLine ∧ (a == sysModules) = false ∧ ∃ vs, KV kvs vs ∧ s.heap.DictOf (noneKind X.prog X.w) a vs := (I.hok a _ e).1
theorem nd_new {h' : Heap} {H' : Hp} {vs : List (Option Key × Value)} (z : kvs.length ≤ sizeLine) (hd : (a == sysModules) = false) (rel : KV kvs vs) (dd : h'.DictOf (noneKind X.prog X.w) a vs) : ObjOk X.prog X.w H' h' a (ND X.fr a kvs) := by
  obtain ⟨o, es, ep, e, q⟩ := _root_.id dd
  refine ⟨⟨z, hd, vs, rel, dd⟩, ⟨o, e⟩, fun h1 h2 ⟨z1, z2, vs1, z3, o1, es1, ep1, z4, z5⟩ h => ⟨z1, z2, vs1, z3, o1, es1, ep1, h _ z4, z5⟩⟩
theorem nd_in {Q : Value → Shared → Prop} {neg : Bool} (I : Inv X pins σ H s) (e : H a = some (ND X.fr a kvs)) (ry : RelV (nkV k) u) (h : ∀ s', Inv X pins σ H s' → Q (.bool (if neg then !(valV kvs k).isSome else (valV kvs k).isSome)) s') :
    wpAny (model X.prog X.w) X.A (compareOp (inop neg) u (.ref a)) Q E s := by
  obtain ⟨z, hd, vs, rel, dd⟩ := nd_of I e
  cases neg with
  | false =>
    refine wpAny_in_of (nkV_is ry) hd dd.mapOf ?_
    rw [← (rel.val k).isSome_eq]
    exact h _ (I.tok _)
  | true =>
    refine wpAny_notIn_of (nkV_is ry) hd dd.mapOf ?_
    rw [← (rel.val k).isSome_eq]
    exact h _ (I.tok _)
theorem nd_get1 {Q : Value → Shared → Prop} (I : Inv X pins σ H s) (e : H a = some (ND X.fr a kvs)) (ry : RelV (nkV k) u) (h : ∀ w' s', Inv X pins σ H s' → RelV ((valV kvs k).getD .non) w' → Q w' s') :
    wpAny (model X.prog X.w) X.A (call (.builtin "dict.get") [.ref a, u]) Q E s := by
  obtain ⟨z, hd, vs, rel, dd⟩ := nd_of I e
  refine call_meetsIn PySem.F.slot_dict_get dd.typeIs PySem.F.entry_dict_get (PySem.F.args_dict_get_2 _ _) (meets_dict_get (noneKind X.prog X.w) a (nkV_is ry) hd) ⟨_, dd.mapOf, h _ _ (I.tok _) ?_⟩
  exact (rel.val k).getD rfl
theorem nd_set {Q : Unit → Shared → Prop} (I : Inv X pins σ H s) (e : H a = some (ND X.fr a kvs)) (hl : kvs.length < sizeLine) (ry : RelV (nkV k) u) (rv : RelV v r) (h : ∀ s', Inv X pins σ (upd H a (ND X.fr a (putK kvs k v))) s' → Q () s') :
    wpAny (model X.prog X.w) X.A (setItem (.ref a) u r) Q E s := by
  obtain ⟨z, hd, vs, rel, dd⟩ := nd_of I e
  have hz : vs.length ≤ sizeLine := by rw [← rel.length]; exact z
  have hl : (putK kvs k v).length ≤ sizeLine := by have := length_putK kvs k v; omega
  refine wpAny_setItem_pairs (hsz := hz) (nkV_is ry) dd fun h' dd' hs => h _ ?_
  have he : ∃ q, h'.get? a = some q := let ⟨q, _, _, hq, _⟩ := dd'; ⟨q, hq⟩
  exact d_write I (by rw [e]; exact True.intro) hs he (nd_new hl hd (rel.put k rv) dd')
theorem nd_setd {Q : Value → Shared → Prop} (I : Inv X pins σ H s) (e : H a = some (ND X.fr a kvs)) (hl : kvs.length < sizeLine) (ry : RelV (nkV k) u) (rv : RelV v r)
    (h1 : ∀ x, valV kvs k = some x → ∀ w' s', Inv X pins σ H s' → RelV x w' → Q w' s') (h2 : valV kvs k = none → ∀ w' s', Inv X pins σ (upd H a (ND X.fr a (putK kvs k v))) s' → RelV v w' → Q w' s') :
    wpAny (model X.prog X.w) X.A (call (.builtin "dict.setdefault") [.ref a, u, r]) Q E s := by
  obtain ⟨z, hd, vs, rel, dd⟩ := nd_of I e
  have hz : vs.length ≤ sizeLine := by rw [← rel.length]; exact z
  refine call_meetsIn PySem.F.slot_dict_setdefault dd.typeIs PySem.F.entry_dict_setdefault (PySem.F.args_dict_setdefault_3 _ _ _) (kt_meets_setdefault (noneKind X.prog X.w) a (nkV_is ry) hd r) ⟨vs, dd, hz, fun v hv => ?_, fun hn h' dd' hs => ?_⟩
  · have q := rel.val k
    rw [hv] at q
    cases q0 : valV kvs k with
    | none => rw [q0] at q; exact (show False from q).elim
    | some v0 => rw [q0] at q; exact h1 v0 q0 _ _ (I.tok _) q
  · have q := rel.val k
    rw [hn] at q
    cases q0 : valV kvs k with
    | some v0 => rw [q0] at q; exact (show False from q).elim
    | none =>
      have hl2 : (putK kvs k v).length ≤ sizeLine := by have := length_putK kvs k v; omega
      have he : ∃ q, h'.get? a = some q := let ⟨q, _, _, hq, _⟩ := dd'; ⟨q, hq⟩
      exact h2 q0 _ _ (d_write I (by rw [e]; exact True.intro) hs he (nd_new hl2 hd (rel.put k rv) dd')) rv
end

/-! ### in -/
def kmem (ks : List D) (x : D) : Bool := ks.any fun k => beqK k x
theorem kmem_key (k : Key) : ∀ kvs : List (Key × V), kmem (kvs.map fun p => keyD p.1) (keyD k) = (valV kvs k).isSome
  | [] => rfl
  | p :: r => by
    have ih := kmem_key k r
    unfold kmem at ih ⊢
    simp only [List.map_cons, List.any_cons, beqK_key]
    by_cases e : p.1 = k
    · simp [valV_pos e, e]
    · rw [valV_neg e, ih]
      simp [e]
theorem kmem_nkey (k : Option Key) : ∀ kvs : List (Option Key × V), kmem (kvs.map fun p => nkD p.1) (nkD k) = (valV kvs k).isSome
  | [] => rfl
  | p :: r => by
    have ih := kmem_nkey k r
    unfold kmem at ih ⊢
    simp only [List.map_cons, List.any_cons, beqK_nkey]
    by_cases e : p.1 = k
    · simp [valV_pos e, e]
    · rw [valV_neg e, ih]
      simp [e]
theorem kmem_non (kvs : List (Key × V)) : kmem (kvs.map fun p => keyD p.1) .non = false := by
  unfold kmem
  rw [List.any_eq_false]
  intro x hx
  obtain ⟨p, _, e⟩ := List.mem_map.mp hx
  subst e
  rcases p with ⟨k | k, v⟩ <;> simp [keyD, beqK]
def inD2 (a b : D) : Option Bool := match b with
  | .dic k ks _ => if (k = 0 ∨ k = 2) ∧ a.nkey.isSome = true then some (kmem ks a) else none
  | b => inD a b
def rDIn (K : Fr) (neg : Bool) : R2 := fun x y H Q => (∃ a o, y = .ref a ∧ DGet H a x o ∧ Q (.bl (if neg then !o.isSome else o.isSome)) H) ∨
  (∃ a kvs, y = .ref a ∧ x = .non ∧ Rd H a (.dK kvs) ∧ Q (.bl (if neg then !false else false)) H) ∨ ∃ a kvs k, y = .ref a ∧ H a = some (ND K a kvs) ∧ x = nkV k ∧ Q (.bl (if neg then !(valV kvs k).isSome else (valV kvs k).isSome)) H
section
variable {X : Cx}
theorem op_dIn (hu : X.A.units + 1 < cLine) (neg : Bool) : OpR X (compareOp (inop neg)) (rDIn X.fr neg) := by
  intro pins s σ H x y v u Q I rx ry h
  rcases h with ⟨a, o, e, g, q⟩ | ⟨a, kvs, e, e2, g, q⟩ | ⟨a, kvs, k, e, g, e2, q⟩
  · subst e
    obtain rfl : u = Value.ref a := ry
    cases neg with
    | false => exact d_in hu I g rx fun s' I' => ⟨.bl _, H, I', rfl, q⟩
    | true => exact d_notIn hu I g rx fun s' I' => ⟨.bl _, H, I', rfl, q⟩
  · subst e e2
    obtain rfl : u = Value.ref a := ry
    obtain rfl : v = Value.none := rx
    cases neg with
    | false => exact d_inNone I g fun s' I' => ⟨.bl _, H, I', rfl, q⟩
    | true => exact d_notInNone I g fun s' I' => ⟨.bl _, H, I', rfl, q⟩
  · subst e e2
    obtain rfl : u = Value.ref a := ry
    exact nd_in I g rx fun s' I' => ⟨.bl _, H, I', rfl, q⟩
theorem op_in2 (hu : X.A.units + 65 < cLine) (neg : Bool) : OpR X (compareOp (inop neg)) (fun x y H Q => rInAll X.K neg x y H Q ∨ rDIn X.fr neg x y H Q) := OpR.or (op_inAll hu neg) (op_dIn (by omega) neg)
theorem in2_ok (neg : Bool) : Op2 X (fun x y H Q => rInAll X.K neg x y H Q ∨ rDIn X.fr neg x y H Q) (op2 (blG neg inD2)) := Op2.bl fun H Q a b k x y r1 r2 e q => by
  unfold inD2 at e
  split at e
  · rename_i kd ks vs
    split at e <;> cases e
    rename_i hk
    obtain ⟨hk, hn⟩ := hk
    obtain ⟨nk, hn⟩ := Option.isSome_iff_exists.mp hn
    obtain ⟨e1, e2⟩ := nkey_rep hn r1
    refine .inr ?_
    rcases hk with hk | hk
    · subst hk
      obtain ⟨a, kvs, e3, q1, e4, l1⟩ := dic_read r2
      rw [e4, e2] at q
      cases nk with
      | none =>
        rw [show nkD none = D.non from rfl, kmem_non] at q
        exact .inr (.inl ⟨a, kvs, e3, e1, q1, q⟩)
      | some k =>
        rw [show nkD (some k) = keyD k from rfl, kmem_key] at q
        exact .inl ⟨a, _, e3, .inl ⟨kvs, k, q1, e1, rfl⟩, q⟩
    · subst hk
      simp only [Rep, DcAt] at r2
      obtain ⟨a, xs, e3, ⟨kvs, q1, e4, e5⟩, _, l1⟩ := r2
      rw [e4, e2, kmem_nkey] at q
      exact .inr (.inr ⟨a, kvs, nk, e3, q1, e1, q⟩)
  · exact .inl (in_read r1 r2 e q)
end

/-! ### all two-place operations -/
inductive Op where
  | add | sub | mul | fdiv | mod | pow | eq | ne | cm (c : Cm) | inn (neg : Bool) | is (neg : Bool)
  deriving DecidableEq
def D.isNon : D → Bool
  | .non => true
  | _ => false
def isG (neg : Bool) (a b : Mo × D) : Option (Mo × D) := match b.2 with
  | .non => some (.fz, .bl (if neg then !a.2.isNon else a.2.isNon))
  | _ => none
def Op.g : Op → Mo × D → Mo × D → Option (Mo × D)
  | .add => addG | .sub => at2 subG | .mul => mulG | .fdiv => at2 fdivG | .mod => at2 modG | .pow => at2 powG
  | .eq => blG false eqD | .ne => blG true eqD | .cm c => blG c.neg (cmD c) | .inn n => blG n inD2 | .is n => isG n
/-- the operator of a BinOp -/
def Op.bin : Op → Option Operator
  | .add => some .Add | .sub => some .Sub | .mul => some .Mult | .fdiv => some .FloorDiv | .mod => some .Mod | .pow => some .Pow | _ => none
def Op.cmp : Op → Option CmpOp
  | .eq => some .Eq | .ne => some .NotEq | .cm c => some c.op | .inn n => some (inop n) | .is n => some (if n then .IsNot else .Is) | _ => none
section
variable {X : Cx}
theorem rep_non {K : Fr} {H : Hp} {Z : Addr → Prop} {d : D} {v : V} (h : Rep K H Z d v) : decide (v = .non) = d.isNon := by
  cases d <;> simp only [Rep] at h
  · subst h; rfl
  · subst h; rfl
  · subst h; rfl
  · subst h; rfl
  · obtain ⟨a, xs, e, _⟩ := h; subst e; rfl
  · obtain ⟨a, xs, e, _⟩ := h; subst e; rfl
  · obtain ⟨a, xs, e, _⟩ := h; subst e; rfl
  · obtain ⟨a, e, _⟩ := h; subst e; rfl
theorem is_ok (neg : Bool) : Op2 X (fun x y H Q => y = .non ∧ Q (.bl (if neg then !decide (x = .non) else decide (x = .non))) H) (op2 (isG neg)) := Op2.of fun FP H0 H Z Q a b c x y s zd r1 r2 e q => by
  obtain ⟨m2, d2⟩ := b
  unfold isG at e
  split at e
  · rename_i h2
    cases e
    simp only at h2
    subst h2
    have r2 := r2.atom rfl
    simp only [Rep] at r2
    refine ⟨r2, ?_⟩
    rw [rep_non r1.read]
    exact q _ H Z .refl fz_bl
  · cases e
theorem op_isAll (neg : Bool) : OpR X (compareOp (if neg then .IsNot else .Is)) (fun x y H Q => y = .non ∧ Q (.bl (if neg then !decide (x = .non) else decide (x = .non))) H) := by
  cases neg with
  | false => exact op_isN
  | true => exact op_notN
theorem bin_ok {o : Op} {p : Operator} (h : o.bin = some p) : ∃ r, OpR X (binaryOp p) r ∧ Op2 X r (op2 o.g) := by
  cases o <;> cases h
  · exact ⟨_, op_addAll, add_ok⟩
  · exact ⟨_, op_sub, sub_ok⟩
  · exact ⟨_, op_mulAll, mul_ok⟩
  · exact ⟨_, op_fdivW, fdiv_ok⟩
  · exact ⟨_, op_mod, mod_ok⟩
  · exact ⟨_, op_pow, pow_ok⟩
theorem cmp_ok (hu : X.A.units + 65 < cLine) {o : Op} {p : CmpOp} (h : o.cmp = some p) : ∃ r, OpR X (compareOp p) r ∧ Op2 X r (op2 o.g) := by
  cases o <;> cases h
  · exact ⟨_, op_eqAll (by omega), eq_ok⟩
  · exact ⟨_, op_neAll (by omega), ne_ok⟩
  · exact ⟨_, op_cmD (by omega) _, cm_ok _⟩
  · exact ⟨_, op_in2 hu _, in2_ok _⟩
  · exact ⟨_, op_isAll _, is_ok _⟩
end
end Pi

set_option Elab.async false
set_option linter.all false
set_option maxRecDepth 100000
set_option maxHeartbeats 4000000
/-! Pi7: the language of expressions, its meaning, and when an expression of the text is such a term. -/
namespace Pi
open PySem PySem.Spec PyProof.Rows L2

inductive Bi where
  | len | abs | int | all | any | sum | tuple | list | sorted
  deriving DecidableEq
def Bi.name : Bi → Str
  | .len => "len" | .abs => "abs" | .int => "int" | .all => "all" | .any => "any" | .sum => "sum" | .tuple => "tuple" | .list => "list" | .sorted => "sorted"
def Bi.g : Bi → List (Mo × D) → Option (Mo × D)
  | .len => on1 lenG | .abs => on1 absG | .int => on1 intG | .all => on1 (allG true) | .any => on1 (allG false) | .sum => on1 sumG | .tuple => on1 tupG | .list => on1 listG | .sorted => on1 sortG
inductive Mt where
  | split | join | get | index
  deriving DecidableEq
def Mt.name : Mt → Str
  | .split => "split" | .join => "join" | .get => "get" | .index => "index"
def getG (a b : Mo × D) : Option (Mo × D) := match a.2 with
  | .dic 0 ks vs => if dvOk a.1 vs = true ∧ b.2.key.isSome = true then some (.fz, (dlook ks vs b.2).getD .non) else none
  | .dic 2 ks vs => if dvOk a.1 vs = true ∧ b.2.nkey.isSome = true then some (.fz, (dlook ks vs b.2).getD .non) else none
  | _ => none
def Mt.rcv : Mt → D → Bool
  | .split, .str _ => true
  | .join, .str _ => true
  | .get, .dic 0 _ _ => true
  | .get, .dic 2 _ _ => true
  | .index, .lst _ => true
  | _, _ => false
def Mt.g : Mt → Mo × D → Mo × D → Option (Mo × D)
  | .split => splitG | .join => joinG | .get => getG | .index => indexG

/-- targets -/
inductive Tg where
  | nm (i : Nat)
  | tp (ts : List Tg)

mutual
inductive E where
  | var (i : Nat) | con (d : D) | glob (g : Nat)
  | op (o : Op) (a b : E) | chn (o o' : Op) (a b c : E)
  | and (a b : E) | or (a b : E) | not (a : E) | neg (a : E)
  | ite (c a b : E)
  | ix (a b : E) | sl (a : E) (lo hi : Eo) | rev (a : E)
  | tup (es : Es) | lst (es : Es) | dic (k : Nat) (ks : List D) (vs : Es) | dic1 (a b : E)
  | call (f : Nat) (es : Es) | bi (b : Bi) (es : Es) | isi (a : E) (t : Ty)
  | mt (m : Mt) (o a : E)
  | mdin (neg : Bool) (g : Nat) (a : E) | mdix (g : Nat) (a : E)
  | lc (x : E) (vs : List Nat) (tg : Tg) (it : It) (c : Eo)
  | dc (k x : E) (vs : List Nat) (tg : Tg) (it : It) (c : Eo)
  | lrng (lo : Eo) (hi : E)
  | sset (a : E)
inductive Eo where
  | no | so (e : E)
inductive Es where
  | nil | cons (e : E) (es : Es)
inductive It where
  | of (e : E) | rng (es : Es) | enm (e : E)
end

/-- what the text's other names stand for: global constants, defs, dicts of the module -/
structure Tab where
  gl : List (Str × D)
  fn : List (Str × Nat × (List D → Res (Mo × D)))
  md : List (Str × List (List Nat × D))

/-! ### the meaning -/
def setR (ρ : Rho) (i : Nat) (d : D) : Rho := ρ.set i (some (false, d))
mutual
def bindT : Tg → D → Rho → Option Rho
  | .nm i, d, ρ => if i < ρ.length then some (setR ρ i d) else none
  | .tp ts, d, ρ => match d with
    | .tup ds => bindTs ts ds ρ
    | _ => none
def bindTs : List Tg → List D → Rho → Option Rho
  | [], [], ρ => some ρ
  | t :: ts, d :: ds, ρ => (bindT t d ρ).bind fun ρ => bindTs ts ds ρ
  | _, _, _ => none
end
def wipeR (ρ : Rho) : List Nat → Rho
  | [] => ρ
  | v :: vs => (wipeR ρ vs).set v none
def toB : Mo × D → Res Bool
  | (_, .bl b) => .ok b
  | _ => .st
/-- the items that a walk gives -/
def itemsG : Mo × D → Res (List D)
  | (m, .lst ds) => if m = .fz ∨ (m = .ow ∧ ds.all D.atom = true) then .ok ds else .st
  | (_, .tup ds) => .ok ds
  | (_, .str s) => .ok (s.map fun c => .str [c])
  | (m, .dic 0 ks _) => if m = .ow then .ok ks else .st
  | _ => .st
def enumL (i : Int) : List D → List D
  | [] => []
  | d :: r => .tup [.int i, d] :: enumL (i + 1) r
def enumG (a : Mo × D) : Res (List D) := match a.2 with
  | .lst _ => (itemsG a) >>= fun l => .ok (enumL 0 l)
  | .tup _ => (itemsG a) >>= fun l => .ok (enumL 0 l)
  | _ => .st
def rgD (lo c : Int) (n : Nat) : List D := (List.range n).map fun (i : Nat) => .int (lo + (i : Int) * c)
def okI (i : Int) : Bool := decide (-(2 ^ 62) ≤ i) && decide (i < 2 ^ 62)
def rngG : List (Mo × D) → Res (List D)
  | [(_, .int j)] => if okI j = true then .ok (rgD 0 1 j.toNat) else .st
  | [(_, .int i), (_, .int j)] => if okI i = true ∧ okI j = true then .ok (rgD i 1 (j - i).toNat) else .st
  | [(_, .int i), (_, .int j), (_, .int c)] => if c ≠ 0 ∧ c.natAbs < 1073741824 ∧ Builtin.Range.small i j c = true ∧ 0 ≤ Builtin.Range.rangeSize i j c then .ok (rgD i c (Builtin.Range.rangeSize i j c).toNat) else .st
  | _ => .st
def lcStep (o : Option Rho) (fc : Rho → Res Bool) (fx : Rho → Res (Mo × D)) : Option (Option D) := match o with
  | none => none
  | some ρ2 => match fc ρ2 with
    | .ok true => match fx ρ2 with
      | .ok (m, d) => if m = .bo then none else some (some d)
      | _ => none
    | .ok false => some none
    | _ => none
def lcL (f : D → Option (Option D)) : List D → Option (List D)
  | [] => some []
  | d :: r => match f d with
    | some (some x) => (lcL f r).map fun l => x :: l
    | some none => lcL f r
    | none => none
def lcR (f : D → Option (Option D)) (l : List D) : Res (Mo × D) := match lcL f l with
  | some l => if l.length ≤ sizeLine then .ok (lmo l, .lst l) else .st
  | none => .st
/-- calls: what a def gives; lent lists come back -/
def D.flat : D → Bool
  | .non | .bl _ | .int _ | .str _ => true
  | .tup ds => ds.attach.all fun ⟨d, _⟩ => D.flat d
  | _ => false
def flatR (d : D) : Bool := match d with
  | .lst ds => ds.all D.flat
  | .dic _ _ vs => vs.all D.flat
  | d => d.flat
def callG (F : List D → Res (Mo × D)) (as : List (Mo × D)) : Res (Mo × D) := match F (as.map (·.2)) with
  | .ok (m, d) => if m = .bo ∨ (as.any fun a => decide (a.1 = .bo)) = true ∧ (flatR d = false ∨ (m = .fz ∧ d.atom = false)) then .st else .ok (m, d)
  | .er c p => .er c p
  | .st => .st
def optR {α : Type} : Option α → Res α
  | some a => .ok a
  | none => .st
def intO (o : Option (Mo × D)) : Res (Option Int) := match o with
  | none => .ok none
  | some (_, .int i) => .ok (some i)
  | _ => .st
/-- a display of a list: its items are data -/
def lstG (as : List (Mo × D)) : Option (Mo × D) := if (as.any fun a => decide (a.1 = .bo)) = true ∨ ¬ as.length ≤ sizeLine then none else some (lmo (as.map (·.2)), .lst (as.map (·.2)))
def tupDG (as : List (Mo × D)) : Option (Mo × D) := if (as.any fun a => decide (a.1 = .bo)) = true ∨ ¬ as.length ≤ sizeLine then none else some (.fz, .tup (as.map (·.2)))
def dput (ks vs : List D) (k v : D) : List D × List D := if kmem ks k = true then (ks, (ks.zip vs).map fun p => if beqK p.1 k = true then v else p.2) else (ks ++ [k], vs ++ [v])
def dputs : List D → List D → List D × List D → List D × List D
  | k :: ks, v :: vs, acc => dputs ks vs (dput acc.1 acc.2 k v)
  | _, _, acc => acc
def kOk (k : Nat) (d : D) : Bool := if k = 0 then d.key.isSome else if k = 2 then d.nkey.isSome else false
/-- a comprehension of a dict: keys None, ints, texts; values atoms -/
def dcStep (o : Option Rho) (fc : Rho → Res Bool) (fk fx : Rho → Res (Mo × D)) : Option (Option (D × D)) := match o with
  | none => none
  | some ρ2 => match fc ρ2 with
    | .ok true => match fk ρ2 with
      | .ok k => match fx ρ2 with
        | .ok x => if k.2.nkey.isSome = true ∧ x.2.atom = true then some (some (k.2, x.2)) else none
        | _ => none
      | _ => none
    | .ok false => some none
    | _ => none
def dcL (f : D → Option (Option (D × D))) : List D → List D × List D → Option (List D × List D)
  | [], acc => some acc
  | d :: r, acc => match f d with
    | some (some p) => if acc.1.length < sizeLine then dcL f r (dput acc.1 acc.2 p.1 p.2) else none
    | some none => dcL f r acc
    | none => none
def dcR (f : D → Option (Option (D × D))) (l : List D) : Res (Mo × D) := match dcL f l ([], []) with
  | some p => .ok (.ow, .dic 2 p.1 p.2)
  | none => .st
def dicG (k : Nat) (ks : List D) (bs : List (Mo × D)) : Option (Mo × D) :=
  if (ks.all fun a => kOk k a) = true ∧ (bs.all fun a => a.2.atom) = true ∧ ks.length = bs.length ∧ (k = 0 ∨ (k = 2 ∧ ks = [])) then
    some (.ow, .dic k (dputs ks (bs.map (·.2)) ([], [])).1 (dputs ks (bs.map (·.2)) ([], [])).2)
  else none
def lrG (x : Option (Mo × D)) (y : Mo × D) : Option (Mo × D) := match x, y.2 with
  | none, .int j => if okI j = true ∧ j.toNat ≤ 2 ^ 24 then some (.ow, .lst (rgD 0 1 j.toNat)) else none
  | some (_, .int i), .int j => if okI i = true ∧ okI j = true ∧ (j - i).toNat ≤ 2 ^ 24 then some (.ow, .lst (rgD i 1 (j - i).toNat)) else none
  | _, _ => none
def slook : List (List Nat × D) → List Nat → Option D
  | [], _ => none
  | p :: r, s => if p.1 = s then some p.2 else slook r s
def setG (a : Mo × D) : Option (Mo × D) := match a.2 with
  | .lst ds => match ints? ds with
    | some ns => if ns.length < 64 then some (.ow, .lst ((srtI ns.eraseDups).map .int)) else none
    | none => match strs? ds with
      | some ns => if ns.length < 64 then some (.ow, .lst ((srtS ns.eraseDups).map .str)) else none
      | none => none
  | _ => none

mutual
def ev (T : Tab) : E → Rho → Res (Mo × D)
  | .var i, ρ => match ρ[i]? with
    | some (some (w, d)) => .ok (if (w && !d.atom) = true then .bo else .fz, d)
    | _ => .st
  | .con d, _ => .ok (.fz, d)
  | .glob g, _ => match T.gl[g]? with
    | some p => .ok (.fz, p.2)
    | none => .st
  | .op o a b, ρ => ev T a ρ >>= fun x => ev T b ρ >>= fun y => op2 o.g x y
  | .chn o o' a b c, ρ => ev T a ρ >>= fun x => ev T b ρ >>= fun y => op2 o.g x y >>= fun r => toB r >>= fun k => if k = true then ev T c ρ >>= fun z => op2 o'.g y z else .ok (.fz, .bl false)
  | .and a b, ρ => ev T a ρ >>= fun x => toB x >>= fun k => if k = true then ev T b ρ else .ok (.fz, .bl false)
  | .or a b, ρ => ev T a ρ >>= fun x => toB x >>= fun k => if k = true then .ok (.fz, .bl true) else ev T b ρ
  | .not a, ρ => ev T a ρ >>= fun x => toB x >>= fun k => .ok (.fz, .bl (!k))
  | .neg a, ρ => ev T a ρ >>= fun x => match x.2 with
    | .int i => .ok (.fz, .int (-i))
    | _ => .st
  | .ite c a b, ρ => ev T c ρ >>= fun x => toB x >>= fun k => if k = true then ev T a ρ else ev T b ρ
  | .ix a b, ρ => ev T a ρ >>= fun x => ev T b ρ >>= fun y => op2 ixG x y
  | .sl a lo hi, ρ => ev T a ρ >>= fun x => evo T lo ρ >>= fun l => intO l >>= fun l => evo T hi ρ >>= fun h => intO h >>= fun h => optR (slG x l h)
  | .rev a, ρ => ev T a ρ >>= fun x => optR (revG x)
  | .tup es, ρ => evs T es ρ >>= fun as => optR (tupDG as)
  | .lst es, ρ => evs T es ρ >>= fun as => optR (lstG as)
  | .dic k ks vs, ρ => evs T vs ρ >>= fun bs => optR (dicG k ks bs)
  | .dic1 a b, ρ => ev T a ρ >>= fun x => ev T b ρ >>= fun y => optR (dicG 0 [x.2] [y])
  | .call f es, ρ => evs T es ρ >>= fun as => match T.fn[f]? with
    | some p => callG p.2.2 as
    | none => .st
  | .bi b es, ρ => evs T es ρ >>= fun as => optR (b.g as)
  | .isi a t, ρ => ev T a ρ >>= fun x => optR (isiG t x)
  | .mt m o a, ρ => ev T o ρ >>= fun x => if m.rcv x.2 = true then ev T a ρ >>= fun y => op2 m.g x y else .st
  | .mdin neg g a, ρ => ev T a ρ >>= fun x => match T.md[g]?, x.2 with
    | some p, .str s => .ok (.fz, .bl (if neg then !(slook p.2 s).isSome else (slook p.2 s).isSome))
    | _, _ => .st
  | .mdix g a, ρ => ev T a ρ >>= fun x => match T.md[g]?, x.2 with
    | some p, .str s => optR ((slook p.2 s).map fun d => (.fz, d))
    | _, _ => .st
  | .lc x vs tg it c, ρ => evi T it ρ >>= fun l => lcR (fun d => lcStep (bindT tg d (wipeR ρ vs)) (fun ρ2 => evc T c ρ2) (fun ρ2 => ev T x ρ2)) l
  | .dc k x vs tg it c, ρ => evi T it ρ >>= fun l => dcR (fun d => dcStep (bindT tg d (wipeR ρ vs)) (fun ρ2 => evc T c ρ2) (fun ρ2 => ev T k ρ2) (fun ρ2 => ev T x ρ2)) l
  | .lrng lo hi, ρ => evo T lo ρ >>= fun x => ev T hi ρ >>= fun y => optR (lrG x y)
  | .sset a, ρ => ev T a ρ >>= fun x => optR (setG x)
def evo (T : Tab) : Eo → Rho → Res (Option (Mo × D))
  | .no, _ => .ok none
  | .so e, ρ => ev T e ρ >>= fun x => .ok (some x)
/-- a condition; none is true -/
def evc (T : Tab) : Eo → Rho → Res Bool
  | .no, _ => .ok true
  | .so e, ρ => ev T e ρ >>= fun x => toB x
def evs (T : Tab) : Es → Rho → Res (List (Mo × D))
  | .nil, _ => .ok []
  | .cons e es, ρ => ev T e ρ >>= fun x => evs T es ρ >>= fun as => .ok (x :: as)
def evi (T : Tab) : It → Rho → Res (List D)
  | .of e, ρ => ev T e ρ >>= fun x => itemsG x
  | .rng es, ρ => evs T es ρ >>= fun as => rngG as
  | .enm e, ρ => ev T e ρ >>= fun x => enumG x
end

/-! ### a term of the text -/
structure Ck where
  T : Tab
  N : List Str
  sc : Scope
  fl : Bool
def visB (sc : Scope) (x : Str) : Bool := match sc.names.lookup x with
  | some .local => true
  | some .cell => true
  | some .free => true
  | _ => false
def glB (sc : Scope) (x : Str) : Bool := decide (sc.names.lookup x = some .globalImplicit)
def okName (x : Str) : Bool := !(x == "__debug__") && !(x == "__classdict__") && !(x == "__name__")
def conB : D → Const → Bool
  | .non, .none => true
  | .bl b, .bool c => b == c
  | .int i, .int j => decide (i = j)
  | .str s, .str x => decide (mkS s = x)
  | _, _ => false
/-- no star, no slice, no display of a set -/
def plainE : Expr → Bool
  | .Starred _ _ => false
  | .Slice _ _ _ _ => false
  | .Set _ _ _ => false
  | _ => true
/-- may stand ahead of a method's name -/
def recvE : Expr → Bool
  | .Call (.Name _ _) [] [] _ => false
  | _ => true
/-- a test by its value -/
def valE : Expr → Bool
  | .UnaryOp _ _ _ => false
  | .BoolOp _ _ _ => false
  | .IfExp _ _ _ _ => false
  | .Compare _ _ _ _ => false
  | _ => true
def E.tst : E → Bool
  | .ite _ _ _ => false
  | .neg _ => false
  | _ => true
def Eo.tst : Eo → Bool
  | .no => true
  | .so e => e.tst
mutual
def chkT (k : Ck) : Tg → Expr → Bool
  | .nm i, e => match e with
    | .Name x _ => decide (k.N[i]? = some x) && (decide (k.sc.names.lookup x = some .local) || (k.fl && decide (k.sc.names.lookup x = some .cell)))
    | _ => false
  | .tp ts, e => match e with
    | .Tuple es _ _ => chkTs k ts es
    | _ => false
def chkTs (k : Ck) : List Tg → List Expr → Bool
  | [], es => match es with
    | [] => true
    | _ => false
  | t :: ts, es => match es with
    | e :: r => plainE e && chkT k t e && chkTs k ts r
    | [] => false
end
mutual
def tgIn (vs : List Nat) : Tg → Bool
  | .nm i => vs.contains i
  | .tp ts => tgIns vs ts
def tgIns (vs : List Nat) : List Tg → Bool
  | [] => true
  | t :: ts => tgIn vs t && tgIns vs ts
end
def ownOf (N : List Str) (vs : List Nat) : List (Str × Nat) := vs.map fun i => (N.getD i ⟨#[]⟩, i)
def Ck.blk (k : Ck) (scope : Scope) : Ck := { k with sc := relS scope k.sc, fl := false }
def nmIs (x : Str) (e : Expr) : Bool := match e with
  | .Name y _ => y == x
  | _ => false
def chkk : List D → List (Option Expr) → Bool
  | [], [] => true
  | d :: r, some (.Constant c _ _) :: t => conB d c && chkk r t
  | _, _ => false
mutual
def chk : E → Ck → Expr → Bool
  | .var i, k, e => match e with
    | .Name x _ => decide (k.N[i]? = some x) && visB k.sc x && okName x
    | _ => false
  | .con d, k, e => match e with
    | .Constant c _ _ => conB d c
    | _ => false
  | .glob g, k, e => match e with
    | .Name x _ => decide (k.T.gl[g]?.map (·.1) = some x) && glB k.sc x && okName x
    | _ => false
  | .op o a b, k, e => match e with
    | .BinOp x p y _ => decide (o.bin = some p) && chk a k x && chk b k y
    | .Compare x [p] [y] _ => decide (o.cmp = some p) && chk a k x && chk b k y
    | _ => false
  | .chn o o' a b c, k, e => match e with
    | .Compare x [p, q] [y, z] _ => decide (o.cmp = some p) && decide (o'.cmp = some q) && chk a k x && chk b k y && chk c k z
    | _ => false
  | .and a b, k, e => match e with
    | .BoolOp .And (x :: y :: r) pos => a.tst && b.tst && chk a k x && chk b k (match r with | [] => y | _ :: _ => .BoolOp .And (y :: r) pos)
    | _ => false
  | .or a b, k, e => match e with
    | .BoolOp .Or (x :: y :: r) pos => a.tst && b.tst && chk a k x && chk b k (match r with | [] => y | _ :: _ => .BoolOp .Or (y :: r) pos)
    | _ => false
  | .not a, k, e => match e with
    | .UnaryOp .Not x _ => a.tst && chk a k x
    | _ => false
  | .neg a, k, e => match e with
    | .UnaryOp .USub x _ => chk a k x
    | _ => false
  | .ite c a b, k, e => match e with
    | .IfExp x y z _ => c.tst && chk c k x && chk a k y && chk b k z
    | _ => false
  | .ix a b, k, e => match e with
    | .Subscript x y _ => plainE y && chk a k x && chk b k y
    | _ => false
  | .sl a lo hi, k, e => match e with
    | .Subscript x (.Slice l h none _) _ => chk a k x && chko lo k l && chko hi k h
    | _ => false
  | .rev a, k, e => match e with
    | .Subscript x (.Slice none none (some (.UnaryOp .USub (.Constant (.int 1) _ _) _)) _) _ => chk a k x
    | _ => false
  | .tup es, k, e => match e with
    | .Tuple l _ _ => chks es k l
    | _ => false
  | .lst es, k, e => match e with
    | .List l _ => chks es k l
    | _ => false
  | .dic kd ks vs, k, e => match e with
    | .Dict l r _ => chkk ks l && chks vs k r && decide (l.length = r.length) && decide (l.length ≤ 15) && ks.all (kOk 0) && (decide (kd = 0) || (decide (kd = 2) && ks.isEmpty))
    | _ => false
  | .dic1 a b, k, e => match e with
    | .Dict [some x] [y] _ => chk a k x && chk b k y
    | _ => false
  | .call f es, k, e => match e with
    | .Call (.Name x _) l [] _ => decide (k.T.fn[f]?.map (fun p => (p.1, p.2.1)) = some (x, l.length)) && glB k.sc x && okName x && chks es k l
    | _ => false
  | .bi b es, k, e => match e with
    | .Call (.Name x _) (y :: l) [] _ => decide (b.name = x) && glB k.sc x && chks es k (y :: l)
    | _ => false
  | .isi a t, k, e => match e with
    | .Call (.Name x _) [y, .Name z _] [] _ => decide (x = "isinstance") && decide (z = Str.ofString t.name) && glB k.sc x && glB k.sc z && plainE y && chk a k y
    | _ => false
  | .mt m o a, k, e => match e with
    | .Call (.Attribute x n ap) [y] [] cp => decide (m.name = n) && (ap.endLine == cp.line) && recvE x && plainE y && chk o k x && chk a k y
    | _ => false
  | .mdin neg g a, k, e => match e with
    | .Compare x [p] [.Name y _] _ => decide (p = inop neg) && decide (k.T.md[g]?.map (·.1) = some y) && glB k.sc y && okName y && chk a k x
    | _ => false
  | .mdix g a, k, e => match e with
    | .Subscript (.Name y _) x _ => decide (k.T.md[g]?.map (·.1) = some y) && glB k.sc y && okName y && plainE x && chk a k x
    | _ => false
  | .lc x vs tg it c, k, e => match e with
    | .ListComp y [⟨t, i, ifs, 0⟩] scope _ => blkC k.N k.sc scope (ownOf k.N vs) && tgIn vs tg && plainE i && chki it k t i && chkT (k.blk scope) tg t && chkc c (k.blk scope) ifs && chk x (k.blk scope) y
    | _ => false
  | .dc kx x vs tg it c, k, e => match e with
    | .DictComp z y [⟨t, i, ifs, 0⟩] scope _ => blkC k.N k.sc scope (ownOf k.N vs) && tgIn vs tg && plainE i && chki it k t i && chkT (k.blk scope) tg t && chkc c (k.blk scope) ifs && chk kx (k.blk scope) z && chk x (k.blk scope) y
    | _ => false
  | .lrng lo hi, k, e => match e with
    | .Call (.Name x _) [.Call (.Name y _) l [] _] [] _ => decide (x = "list") && decide (y = "range") && glB k.sc x && glB k.sc y && match l with
      | [b] => plainE b && chko lo k none && chk hi k b
      | [a, b] => plainE a && plainE b && chko lo k (some a) && chk hi k b
      | _ => false
    | _ => false
  | .sset a, k, e => match e with
    | .Call (.Name x _) [.Call (.Name y _) [z] [] _] [] _ => decide (x = "sorted") && decide (y = "set") && glB k.sc x && glB k.sc y && plainE z && chk a k z
    | _ => false
def chko : Eo → Ck → Option Expr → Bool
  | .no, k, o => match o with
    | none => true
    | some _ => false
  | .so e, k, o => match o with
    | none => false
    | some x => chk e k x
def chkc : Eo → Ck → List Expr → Bool
  | .no, k, l => match l with
    | [] => true
    | _ => false
  | .so e, k, l => match l with
    | [x] => e.tst && chk e k x
    | _ => false
def chks : Es → Ck → List Expr → Bool
  | .nil, k, l => match l with
    | [] => true
    | _ => false
  | .cons e es, k, l => match l with
    | x :: r => plainE x && chk e k x && chks es k r
    | [] => false
def chki : It → Ck → Expr → Expr → Bool
  | .of e, k, t, i => chk e k i
  | .rng es, k, t, i => match i with
    | .Call (.Name x _) l [] _ => decide (x = "range") && glB k.sc x && chks es k l && decide (l.length ≤ 3)
    | _ => false
  | .enm e, k, t, i => match t, i with
    | .Tuple _ _ _, .Call (.Name x _) [y] [] _ => decide (x = "enumerate") && glB k.sc x && plainE y && chk e k y
    | _, _ => false
end
end Pi

set_option Elab.async false
set_option linter.all false
set_option maxRecDepth 100000
set_option maxHeartbeats 4000000
/-! Pi8: the terms stand for what the text's expressions do. -/
namespace Pi
open PySem PySem.Spec PyProof.Rows L2

/-- what a def promises: n parameters, the meaning F -/
def spP (K : Fr) (mg : Str → Option Value) (n : Nat) (F : List D → Res (Mo × D)) : Sp := fun xs H Q E => ∃ ds Z, ds.length = n ∧ (∀ a, Z a → H a ≠ none) ∧ RepL K H Z ds xs ∧ match F ds with
  | .ok (m, d) => m ≠ .bo ∧ ∀ v H' Z', Ext H Z H' Z' → ResOk K H H' Z' (fun _ => []) m d v → Q v H'
  | .er c _ => ∀ H' Z', Ext H Z H' Z' → E ((mg c).getD .none) none H'
  | .st => False
/-- the built-in names that are used -/
def bnames : List Str := ["len", "abs", "int", "all", "any", "sum", "tuple", "list", "sorted", "range", "enumerate", "isinstance", "set", "str", "bool", "dict"]
structure TabOk (T : Tab) (X : Cx) : Prop where
  gl : ∀ (g : Nat) (x : Str) (d : D), T.gl[g]? = some (x, d) → ∃ v u, X.mg x = some u ∧ RelV v u ∧ ∀ H Z, Rep X.fr H Z d v
  fn : ∀ (f : Nat) (x : Str) (n : Nat) (F : List D → Res (Mo × D)), T.fn[f]? = some (x, n, F) → ∃ k a fd ps, X.mg x = some (.ref a) ∧ PySem.W.keepIn X.K (.ref a) = true ∧ Binds X.K fd ps [] ∧ Room k X.A ∧ ps.length = n ∧ FnOk X.prog X.w X.K X.mg X.base (L2.CX X.prog X.w) k a fd ps (spP X.fr X.mg n F)
  md : ∀ (g : Nat) (x : Str) (kvs : List (List Nat × D)), T.md[g]? = some (x, kvs) → ∃ a es n, X.mg x = some (.ref a) ∧ KDict X.K X.w a es n ∧ ∀ s, match slook kvs s with
    | some d => ∃ v u, PySem.W.nsIn X.K a (mkS s) = some (some u) ∧ RelV v u ∧ ∀ H Z, Rep X.fr H Z d v
    | none => PySem.W.nsIn X.K a (mkS s) = some none
  bt : ∀ x ∈ bnames, X.mg x = none
structure CkOk (k : Ck) (X : Cx) (W : WX) : Prop where
  hN : X.N = k.N
  nd : k.N.Nodup
  sc : X.env.scope = k.sc
  fl : k.fl = true → ∀ x, X.fn x = true
  calm : X.calm = true
  un : X.A.units + 65 < cLine
  tk : Takes X W
  tab : TabOk k.T X

section
variable {X : Cx} {W : WX} {H : Hp} {Z : Addr → Prop} {σ : Pi.St} {ρ : Rho} {FP : Nat → List Addr} {β : Type}
theorem Out.bind' {α : Type} {R : β → Hp → (Addr → Prop) → Prop} {R1 : α → Hp → (Addr → Prop) → Prop} {r : Res α} {k : α → Res β} (h : Out X W H Z σ R (r >>= k))
    (c : ∀ a H1 Z1, r = .ok a → Ext H Z H1 Z1 → Out X W H Z σ R (k a) → R1 a H1 Z1) : Out X W H Z σ R1 r := by
  cases r with
  | ok a => exact fun H' Z' e' => c a H' Z' rfl e' h
  | er c p => exact h
  | st => exact h
theorem GE.bind' {f : Rho → Res (Mo × D)} {k : Mo × D → Res β} {R : β → Hp → (Addr → Prop) → Prop} {Q : VK} (e : EnvOk X.fr H Z ρ σ FP) (h : Out X W H Z σ R (f ρ >>= k))
    (c : ∀ a v H1 Z1, f ρ = .ok a → Ext H Z H1 Z1 → ResOk X.fr H H1 Z1 FP a.1 a.2 v → EnvOk X.fr H1 Z1 ρ σ FP → Out X W H Z σ R (k a) → Q v H1) : GE X W f σ H Q :=
  ⟨ρ, Z, FP, e, Out.bind' h fun a H1 Z1 e0 e1 h1 v r => c a v H1 Z1 e0 e1 r (e1.env e) h1⟩
theorem GT.bind' {f : Rho → Res Bool} {k : Bool → Res β} {R : β → Hp → (Addr → Prop) → Prop} {Q : Bool → Hp → Prop} (e : EnvOk X.fr H Z ρ σ FP) (h : Out X W H Z σ R (f ρ >>= k))
    (c : ∀ b H1 Z1, f ρ = .ok b → Ext H Z H1 Z1 → EnvOk X.fr H1 Z1 ρ σ FP → Out X W H Z σ R (k b) → Q b H1) : GT X W f σ H Q :=
  ⟨ρ, Z, FP, e, Out.bind' h fun a H1 Z1 e0 e1 h1 => c a H1 Z1 e0 e1 (e1.env e) h1⟩
theorem GA.bind' {f : Rho → Res (List (Mo × D))} {k : List (Mo × D) → Res β} {R : β → Hp → (Addr → Prop) → Prop} {Q : List V → Hp → Prop} (e : EnvOk X.fr H Z ρ σ FP) (h : Out X W H Z σ R (f ρ >>= k))
    (c : ∀ as G vs H1 Z1, f ρ = .ok as → Ext H Z H1 Z1 → ResL X.fr H H1 Z1 FP as G vs → EnvOk X.fr H1 Z1 ρ σ FP → Out X W H Z σ R (k as) → Q vs H1) : GA X W f σ H Q :=
  ⟨ρ, Z, FP, e, Out.bind' h fun a H1 Z1 e0 e1 h1 G vs r => c a G vs H1 Z1 e0 e1 r (e1.env e) h1⟩
end
/-- what is wanted of a value -/
abbrev QE (X : Cx) (H : Hp) (FP : Nat → List Addr) (Q : VK) : Mo × D → Hp → (Addr → Prop) → Prop := fun r H' Z' => ∀ v, ResOk X.fr H H' Z' FP r.1 r.2 v → Q v H'
section
variable {X : Cx} {W : WX} {H : Hp} {Z : Addr → Prop} {σ : Pi.St} {ρ : Rho} {FP : Nat → List Addr} {Q : VK}
theorem out_ok {α : Type} {R : α → Hp → (Addr → Prop) → Prop} {a : α} {H1 : Hp} {Z1 : Addr → Prop} (h : Out X W H Z σ R (.ok a)) (e : Ext H Z H1 Z1) : R a H1 Z1 := h H1 Z1 e
theorem out_opt {R : Mo × D → Hp → (Addr → Prop) → Prop} {o : Option (Mo × D)} (h : Out X W H Z σ R (optR o)) : ∃ c, o = some c ∧ Out X W H Z σ R (.ok c) := by
  cases o with
  | none => exact h.elim
  | some c => exact ⟨c, rfl, h⟩
theorem out_toB {β : Type} {R : β → Hp → (Addr → Prop) → Prop} {x : Mo × D} {k : Bool → Res β} (h : Out X W H Z σ R (toB x >>= k)) : ∃ m b, x = (m, .bl b) ∧ Out X W H Z σ R (k b) := by
  obtain ⟨m, d⟩ := x
  cases d <;> first | exact h.elim | exact ⟨m, _, rfl, h⟩
theorem res_bl {K : Fr} {H0 H : Hp} {m : Mo} {b : Bool} {v : V} (h : ResOk K H0 H Z FP m (.bl b) v) : v = .bl b := by
  have := h.atom rfl
  simpa only [Rep] using this
theorem res_int {K : Fr} {H0 H : Hp} {m : Mo} {b : Int} {v : V} (h : ResOk K H0 H Z FP m (.int b) v) : v = .int b := by
  have := h.atom rfl
  simpa only [Rep] using this
theorem res_str {K : Fr} {H0 H : Hp} {m : Mo} {b : List Nat} {v : V} (h : ResOk K H0 H Z FP m (.str b) v) : v = .str (mkS b) := by
  have := h.atom rfl
  simpa only [Rep] using this
end

/-! ### names and constants -/
section
variable {k : Ck} {X : Cx} {W : WX} {a b c : Expr} {pos : Pos} {fa fb fc : Rho → Res (Mo × D)}
theorem snd_var {i : Nat} {x : Str} (hN : X.N[i]? = some x) (hv : Vis X.env.scope x) (h1 : (x == ("__debug__" : Str)) = false) (h2 : (x == ("__classdict__" : Str)) = false) : PE X (.Name x pos) (GE X W (ev k.T (.var i))) :=
  PE.imp (pe_var hN hv h1 h2) fun σ H Q ⟨ρ, Z, FP, e, o⟩ => by
    unfold ev at o
    split at o
    · rename_i w d hi
      cases w with
      | false =>
        obtain ⟨v, h3, h4⟩ := e.fz i d hi
        exact ⟨v, h3, out_ok o .refl v h4⟩
      | true =>
        obtain ⟨v, h3, h4⟩ := e.ow i d hi
        refine ⟨v, h3, out_ok o .refl v ?_⟩
        cases ha : d.atom with
        | true => exact ((own_atom ha).mp h4).2
        | false => exact ⟨FP i, h4, fun a h => ⟨i, h⟩⟩
    · exact o.elim
theorem snd_con {d : D} {q : Const} {j : Nat} (h : conB d q = true) : PE X (.Constant q j pos) (GE X W (ev k.T (.con d))) := by
  have go : ∀ {v : V}, (∀ H Z, Rep X.fr H Z d v) → ∀ (σ : Pi.St) (H : Hp) (Q : VK), GE X W (ev k.T (.con d)) σ H Q → tC v σ H Q := fun {v} r σ H Q ⟨ρ, Z, FP, e, o⟩ => by
    unfold ev at o
    exact out_ok o .refl v (r H Z)
  unfold conB at h
  split at h
  · exact PE.imp pe_non (go fun H Z => by simp only [Rep])
  · have e := eq_of_beq h
    subst e
    exact PE.imp pe_bl (go fun H Z => by simp only [Rep])
  · have e := of_decide_eq_true h
    subst e
    exact PE.imp pe_int (go fun H Z => by simp only [Rep])
  · have e := of_decide_eq_true h
    subst e
    exact PE.imp pe_str (go fun H Z => by simp only [Rep])
  · cases h
theorem snd_glob {g : Nat} {x : Str} (T : TabOk k.T X) (hg : k.T.gl[g]?.map (·.1) = some x) (gl : Gl X x) (h1 : (x == ("__debug__" : Str)) = false) : PE X (.Name x pos) (GE X W (ev k.T (.glob g))) := by
  rw [Option.map_eq_some_iff] at hg
  obtain ⟨⟨y, d⟩, e1, e2⟩ := hg
  cases e2
  obtain ⟨v, u, hm, r, hr⟩ := T.gl g _ d e1
  refine PE.imp (pe_glob gl hm r h1) fun σ H Q ⟨ρ, Z, FP, e, o⟩ => ?_
  unfold ev at o
  rw [e1] at o
  exact out_ok o .refl v (hr H Z)

/-! ### operations -/
theorem bin_snd {r : R2} {g : Mo × D → Mo × D → Option (Mo × D)} (h : Op2 X r (op2 g)) (σ : Pi.St) (H : Hp) (Q : VK) (q : GE X W (fun ρ => fa ρ >>= fun x => fb ρ >>= fun y => op2 g x y) σ H Q) : tOp r (GE X W fa) (GE X W fb) σ H Q :=
  bin_sound h op2_ne σ H Q q
theorem bin_tst {r : R2} {g : Mo × D → Mo × D → Option (Mo × D)} (h : Op2 X r (op2 g)) (σ : Pi.St) (H : Hp) (Q : Bool → Hp → Prop)
    (q : GT X W (fun ρ => (fa ρ >>= fun x => fb ρ >>= fun y => op2 g x y) >>= fun z => toB z) σ H Q) : tTest (tOp r (GE X W fa) (GE X W fb)) σ H Q := by
  refine bin_snd h σ H _ ?_
  obtain ⟨ρ, Z, FP, e, o⟩ := q
  refine GE.bind' e o fun x v H1 Z1 _ x1 r1 _ o1 => ?_
  have o1 : Out X W H Z σ (fun (r : Bool) H' _ => Q r H') (toB x >>= fun b => .ok b) := by
    have : (toB x >>= fun b => (Res.ok b : Res Bool)) = toB x := by cases toB x <;> rfl
    rw [this]; exact o1
  obtain ⟨m, b, e1, o2⟩ := out_toB o1
  subst e1
  exact ⟨b, res_bl r1, out_ok o2 x1⟩
/-- the test of a value -/
theorem tst_val (ha : PE X a (GE X W fa)) (he : ∀ whole, isTrue a X.env whole = (do let v ← whole; standAt a.pos; holding [v] (truthy v))) : PT X a (GT X W (fun ρ => fa ρ >>= fun z => toB z)) :=
  PT.imp (pt_val ha he) fun σ H Q ⟨ρ, Z, FP, e, o⟩ => by
    refine GE.bind' e o fun x v H1 Z1 _ x1 r1 _ o1 => ?_
    have o1 : Out X W H Z σ (fun (r : Bool) H' _ => Q r H') (toB x >>= fun b => .ok b) := by
      have : (toB x >>= fun b => (Res.ok b : Res Bool)) = toB x := by cases toB x <;> rfl
      rw [this]; exact o1
    obtain ⟨m, b, e1, o2⟩ := out_toB o1
    subst e1
    exact ⟨b, res_bl r1, out_ok o2 x1⟩
theorem valE_true {e : Expr} (h : valE e = true) (env : Env) (whole : Sem Value) : isTrue e env whole = (do let v ← whole; standAt e.pos; holding [v] (truthy v)) := by
  cases e with
  | UnaryOp _ _ _ => cases h
  | BoolOp _ _ _ => cases h
  | IfExp _ _ _ _ => cases h
  | Compare _ _ _ _ => cases h
  | _ => rfl
theorem res_assoc {α β γ : Type} (r : Res α) (f : α → Res β) (g : β → Res γ) : (r >>= f) >>= g = r >>= fun x => f x >>= g := by cases r <;> rfl
end
end Pi

set_option Elab.async false
set_option linter.all false
set_option maxRecDepth 100000
set_option maxHeartbeats 4000000
/-! Pi9: the terms stand for what the text's expressions do: one lemma for each construct. -/
namespace Pi
open PySem PySem.Spec PyProof.Rows L2
section
variable {X : Cx} {W : WX} {H H1 : Hp} {Z Z1 : Addr → Prop} {σ : Pi.St} {FP : Nat → List Addr} {Q : VK} {r : Res (Mo × D)}
theorem out_move (o : Out X W H Z σ (QE X H FP Q) r) (e : Ext H Z H1 Z1) : Out X W H1 Z1 σ (QE X H1 FP Q) r := Out.imp (Out.step o e) fun a H' Z' _ h v q => h v (q.back e.same)
theorem toB_ok (x : Mo × D) : (toB x >>= fun b => (Res.ok b : Res Bool)) = toB x := by cases toB x <;> rfl
theorem out_tB {R : Bool → Hp → (Addr → Prop) → Prop} {x : Mo × D} (h : Out X W H Z σ R (toB x)) : ∃ m b, x = (m, .bl b) ∧ Out X W H Z σ R (.ok b) := by
  rw [← toB_ok] at h
  exact out_toB h
theorem bind_ok {α : Type} (r : Res α) : (r >>= fun a => (Res.ok a : Res α)) = r := by cases r <;> rfl
theorem bind_eq_ok {α β : Type} {r : Res α} {f : α → Res β} {b : β} (h : (r >>= f) = .ok b) : ∃ a, r = .ok a ∧ f a = .ok b := by
  cases r with
  | ok a => exact ⟨a, rfl, h⟩
  | er c p => cases h
  | st => cases h
end
section
variable {X : Cx} {W : WX} {a b c : Expr} {pos : Pos} {fa fb fc : Rho → Res (Mo × D)} {rest : List Expr}
def fAnd (fa fb : Rho → Res (Mo × D)) : Rho → Res (Mo × D) := fun ρ => fa ρ >>= fun x => toB x >>= fun k => if k = true then fb ρ else .ok (.fz, .bl false)
def fOr (fa fb : Rho → Res (Mo × D)) : Rho → Res (Mo × D) := fun ρ => fa ρ >>= fun x => toB x >>= fun k => if k = true then .ok (.fz, .bl true) else fb ρ
abbrev fT (f : Rho → Res (Mo × D)) : Rho → Res Bool := fun ρ => f ρ >>= fun z => toB z
theorem snd_and (ha : PE X a (GE X W fa)) (hb : PE X (.BoolOp .And (b :: rest) pos) (GE X W fb)) : PE X (.BoolOp .And (a :: b :: rest) pos) (GE X W (fAnd fa fb)) :=
  PE.imp (pe_and ha hb) fun σ H Q ⟨ρ, Z, FP, e, o⟩ => GE.bind' e o fun x v H1 Z1 _ x1 r1 e1 o1 => by
    obtain ⟨m, k, ex, o2⟩ := out_toB o1
    subst ex
    refine ⟨k, res_bl r1, ?_⟩
    cases k with
    | true => exact ⟨ρ, Z1, FP, e1, out_move o2 x1⟩
    | false => exact out_ok o2 x1 _ fz_bl
theorem snd_or (ha : PE X a (GE X W fa)) (hb : PE X (.BoolOp .Or (b :: rest) pos) (GE X W fb)) : PE X (.BoolOp .Or (a :: b :: rest) pos) (GE X W (fOr fa fb)) :=
  PE.imp (pe_or ha hb) fun σ H Q ⟨ρ, Z, FP, e, o⟩ => GE.bind' e o fun x v H1 Z1 _ x1 r1 e1 o1 => by
    obtain ⟨m, k, ex, o2⟩ := out_toB o1
    subst ex
    refine ⟨k, res_bl r1, ?_⟩
    cases k with
    | false => exact ⟨ρ, Z1, FP, e1, out_move o2 x1⟩
    | true => exact out_ok o2 x1 _ fz_bl
theorem PW.imp {e : Expr} {t t' : TT} (h : PW X e t) (w : ∀ σ H Q, t' σ H Q → t σ H Q) : PW X e t' := ⟨fun whole pins s σ H Q I q => h.run whole pins s σ H Q I (w σ H Q q)⟩
theorem tand_of (σ : Pi.St) (H : Hp) (Q : Bool → Hp → Prop) (h : GT X W (fT (fAnd fa fb)) σ H Q) : tAnd (GT X W (fT fa)) (GT X W (fT fb)) σ H Q := by
  obtain ⟨ρ, Z, FP, e, o⟩ := h
  have e0 : fT (fAnd fa fb) ρ = (fT fa ρ >>= fun k => if k = true then fT fb ρ else .ok false) := by
    show ((fa ρ >>= _) >>= _) = ((fa ρ >>= _) >>= _)
    rw [res_assoc, res_assoc]
    cases fa ρ with
    | ok x =>
      show ((toB x >>= _) >>= _) = (toB x >>= _)
      rw [res_assoc]
      cases toB x with
      | ok k => cases k <;> rfl
      | er c p => rfl
      | st => rfl
    | er c p => rfl
    | st => rfl
  rw [e0] at o
  refine GT.bind' e o fun k H1 Z1 _ x1 e1 o1 => ?_
  cases k with
  | true => exact ⟨ρ, Z1, FP, e1, Out.step o1 x1⟩
  | false => exact out_ok o1 x1
theorem tor_of (σ : Pi.St) (H : Hp) (Q : Bool → Hp → Prop) (h : GT X W (fT (fOr fa fb)) σ H Q) : tOr (GT X W (fT fa)) (GT X W (fT fb)) σ H Q := by
  obtain ⟨ρ, Z, FP, e, o⟩ := h
  have e0 : fT (fOr fa fb) ρ = (fT fa ρ >>= fun k => if k = true then .ok true else fT fb ρ) := by
    show ((fa ρ >>= _) >>= _) = ((fa ρ >>= _) >>= _)
    rw [res_assoc, res_assoc]
    cases fa ρ with
    | ok x =>
      show ((toB x >>= _) >>= _) = (toB x >>= _)
      rw [res_assoc]
      cases toB x with
      | ok k => cases k <;> rfl
      | er c p => rfl
      | st => rfl
    | er c p => rfl
    | st => rfl
  rw [e0] at o
  refine GT.bind' e o fun k H1 Z1 _ x1 e1 o1 => ?_
  cases k with
  | false => exact ⟨ρ, Z1, FP, e1, Out.step o1 x1⟩
  | true => exact out_ok o1 x1
theorem snd_andW (ha : PT X a (GT X W (fT fa))) (hb : PW X (.BoolOp .And (b :: rest) pos) (GT X W (fT fb))) : PW X (.BoolOp .And (a :: b :: rest) pos) (GT X W (fT (fAnd fa fb))) := PW.imp (pw_and ha hb) tand_of
theorem snd_orW (ha : PT X a (GT X W (fT fa))) (hb : PW X (.BoolOp .Or (b :: rest) pos) (GT X W (fT fb))) : PW X (.BoolOp .Or (a :: b :: rest) pos) (GT X W (fT (fOr fa fb))) := PW.imp (pw_or ha hb) tor_of
def fNot (fa : Rho → Res (Mo × D)) : Rho → Res (Mo × D) := fun ρ => fa ρ >>= fun x => toB x >>= fun k => .ok (.fz, .bl (!k))
theorem snd_not (ha : PE X a (GE X W fa)) : PE X (.UnaryOp .Not a pos) (GE X W (fNot fa)) :=
  PE.imp (pe_not ha) fun σ H Q ⟨ρ, Z, FP, e, o⟩ => GE.bind' e o fun x v H1 Z1 _ x1 r1 e1 o1 => by
    obtain ⟨m, k, ex, o2⟩ := out_toB o1
    subst ex
    exact ⟨k, res_bl r1, out_ok o2 x1 _ fz_bl⟩
theorem snd_notT (ha : PT X a (GT X W (fT fa))) : PT X (.UnaryOp .Not a pos) (GT X W (fT (fNot fa))) :=
  PT.imp (pt_not ha) fun σ H Q ⟨ρ, Z, FP, e, o⟩ => by
    have e0 : fT (fNot fa) ρ = (fT fa ρ >>= fun k => .ok (!k)) := by
      show ((fa ρ >>= _) >>= _) = ((fa ρ >>= _) >>= _)
      rw [res_assoc, res_assoc]
      cases fa ρ with
      | ok x =>
        show ((toB x >>= _) >>= _) = (toB x >>= _)
        rw [res_assoc]
        cases toB x <;> rfl
      | er c p => rfl
      | st => rfl
    rw [e0] at o
    exact GT.bind' e o fun k H1 Z1 _ x1 e1 o1 => out_ok o1 x1
def fNeg (fa : Rho → Res (Mo × D)) : Rho → Res (Mo × D) := fun ρ => fa ρ >>= fun x => match x.2 with
    | .int i => .ok (.fz, .int (-i))
    | _ => .st
theorem snd_neg (ha : PE X a (GE X W fa)) : PE X (.UnaryOp .USub a pos) (GE X W (fNeg fa)) :=
  PE.imp (pe_un un_neg ha) fun σ H Q ⟨ρ, Z, FP, e, o⟩ => GE.bind' e o fun x v H1 Z1 _ x1 r1 e1 o1 => by
    obtain ⟨m, d⟩ := x
    cases d <;> first | exact o1.elim | exact ⟨_, res_int r1, out_ok o1 x1 _ fz_int⟩
def fIte (fc fa fb : Rho → Res (Mo × D)) : Rho → Res (Mo × D) := fun ρ => fc ρ >>= fun x => toB x >>= fun k => if k = true then fa ρ else fb ρ
theorem snd_ite (hc : PT X c (GT X W (fT fc))) (ha : PE X a (GE X W fa)) (hb : PE X b (GE X W fb)) : PE X (.IfExp c a b pos) (GE X W (fIte fc fa fb)) :=
  PE.imp (pe_ifExp hc ha hb) fun σ H Q ⟨ρ, Z, FP, e, o⟩ => by
    have e0 : fIte fc fa fb ρ = (fT fc ρ >>= fun k => if k = true then fa ρ else fb ρ) := by
      show (fc ρ >>= _) = ((fc ρ >>= _) >>= _)
      rw [res_assoc]
    rw [e0] at o
    refine GT.bind' e o fun k H1 Z1 _ x1 e1 o1 => ?_
    cases k with
    | true => exact ⟨ρ, Z1, FP, e1, out_move o1 x1⟩
    | false => exact ⟨ρ, Z1, FP, e1, out_move o1 x1⟩
theorem out_op2 {H : Hp} {Z : Addr → Prop} {σ : Pi.St} {β : Type} {R : β → Hp → (Addr → Prop) → Prop} {g : Mo × D → Mo × D → Option (Mo × D)} {x y : Mo × D} {k : Mo × D → Res β} (h : Out X W H Z σ R (op2 g x y >>= k)) : ∃ z, g x y = some z ∧ Out X W H Z σ R (k z) := by
  cases hg : g x y with
  | none => simp only [op2, hg] at h; exact h.elim
  | some z => simp only [op2, hg] at h; exact ⟨z, rfl, h⟩
/-- the rule, with the modes of both operands -/
theorem op2_use {r : R2} {g : Mo × D → Mo × D → Option (Mo × D)} (h : Op2 X r (op2 g)) {H H1 : Hp} {Z1 : Addr → Prop} {FP : Nat → List Addr} {Q : VK} {x y z : Mo × D} {v u : V} (s : Same H H1) (zd : ∀ a, Z1 a → H1 a ≠ none) (r1 : ResOk X.fr H H1 Z1 FP x.1 x.2 v) (r2 : ResOk X.fr H H1 Z1 FP y.1 y.2 u)
    (e : g x y = some z) (q : ∀ v H' Z', Ext H1 Z1 H' Z' → ResOk X.fr H H' Z' FP z.1 z.2 v → Q v H') : r v u H1 Q := by
  refine h (fun _ _ _ _ => False) [] FP H H1 Z1 Q x y v u s zd r1 r2 ?_ (op2_ne _ _)
  simp only [op2, e]
  exact fun H' Z' x v r => q v H' Z' x r
def fChn (g g' : Mo × D → Mo × D → Option (Mo × D)) (fa fb fc : Rho → Res (Mo × D)) : Rho → Res (Mo × D) := fun ρ => fa ρ >>= fun x => fb ρ >>= fun y => op2 g x y >>= fun r => toB r >>= fun k => if k = true then fc ρ >>= fun z => op2 g' y z else .ok (.fz, .bl false)
theorem tchn_of {r r' : R2} {g g' : Mo × D → Mo × D → Option (Mo × D)} (h : Op2 X r (op2 g)) (h' : Op2 X r' (op2 g')) (σ : Pi.St) (H : Hp) (Q : VK) (q : GE X W (fChn g g' fa fb fc) σ H Q) : tChain r r' (GE X W fa) (GE X W fb) (GE X W fc) σ H Q := by
  obtain ⟨ρ, Z, FP, e, o⟩ := q
  refine GE.bind' e o fun x v H1 Z1 _ x1 r1 e1 o1 => ?_
  have o1 := Out.step o1 x1
  refine GE.bind' e1 o1 fun y u H2 Z2 _ x2 r2 e2 o2 => ?_
  have o2 := Out.step o2 x2
  obtain ⟨z, hz, o3⟩ := out_op2 o2
  obtain ⟨m, k, ez, o4⟩ := out_toB o3
  subst ez
  refine op2_use h (x1.trans x2).same e2.zd (r1.ext x2) (r2.back x1.same) hz fun w H3 Z3 x3 r3 => ?_
  refine ⟨k, res_bl r3, ?_⟩
  have o4 := Out.step o4 x3
  have e3 := x3.env e2
  cases k with
  | false => exact out_ok o4 .refl _ fz_bl
  | true =>
    refine GE.bind' e3 o4 fun z2 w2 H4 Z4 _ x4 r4 e4 o5 => ?_
    have o5 := Out.step o5 x4
    rw [← bind_ok (op2 g' y z2)] at o5
    obtain ⟨c2, hc, o6⟩ := out_op2 o5
    have s4 := ((x1.trans x2).trans (x3.trans x4)).same
    refine op2_use h' s4 e4.zd ((r2.back x1.same).ext (x3.trans x4)) (r4.back ((x1.trans x2).trans x3).same) hc fun w5 H5 Z5 x5 r5 => ?_
    exact out_ok o6 x5 _ r5
theorem snd_chn {op op' : CmpOp} {r r' : R2} {g g' : Mo × D → Mo × D → Option (Mo × D)} (ho : OpR X (compareOp op) r) (ho' : OpR X (compareOp op') r') (h : Op2 X r (op2 g)) (h' : Op2 X r' (op2 g')) (ha : PE X a (GE X W fa)) (hb : PE X b (GE X W fb)) (hc : PE X c (GE X W fc)) (hm : lastMarks [op, op'] [b, c] = false) :
    PE X (.Compare a [op, op'] [b, c] pos) (GE X W (fChn g g' fa fb fc)) := PE.imp (pe_chain ho ho' ha hb hc hm) (tchn_of h h')
theorem snd_chnT {op op' : CmpOp} {r r' : R2} {g g' : Mo × D → Mo × D → Option (Mo × D)} (ho : OpR X (compareOp op) r) (ho' : OpR X (compareOp op') r') (h : Op2 X r (op2 g)) (h' : Op2 X r' (op2 g')) (ha : PE X a (GE X W fa)) (hb : PE X b (GE X W fb)) (hc : PE X c (GE X W fc)) (hm : lastMarks [op, op'] [b, c] = false) :
    PT X (.Compare a [op, op'] [b, c] pos) (GT X W (fT (fChn g g' fa fb fc))) := PT.imp (pt_chain ho ho' ha hb hc hm) fun σ H Q ⟨ρ, Z, FP, e, o⟩ => by
  refine tchn_of h h' σ H _ ?_
  refine GE.bind' e o fun x v H1 Z1 _ x1 r1 _ o1 => ?_
  obtain ⟨m, b, e1, o2⟩ := out_tB o1
  subst e1
  exact ⟨b, res_bl r1, out_ok o2 x1⟩

/-! ### subscripts -/
theorem plainE_ix {e : Expr} (h : plainE e = true) : PlainIx e := by
  cases e <;> first | (cases h; done) | (intro o i; rfl)
theorem snd_ix (hu : X.A.units + 1 < cLine) (ha : PE X a (GE X W fa)) (hb : PE X b (GE X W fb)) (hp : plainE b = true) : PE X (.Subscript a b pos) (GE X W (fun ρ => fa ρ >>= fun x => fb ρ >>= fun y => op2 ixG x y)) :=
  PE.imp (pe_ix (ix_all hu) ha hb (plainE_ix hp)) (bin_snd ix_ok)
/-- a slice's part -/
def GO (X : Cx) (W : WX) (f : Rho → Res (Option (Mo × D))) : TO := fun σ H Q => ∃ ρ Z FP, EnvOk X.fr H Z ρ σ FP ∧ Out X W H Z σ (fun (l : Option Int) H' Z' => Q l H') (f ρ >>= fun o => intO o)
theorem snd_no : PO X none (GO X W fun _ => .ok none) := ⟨fun pins s σ H Q I ⟨ρ, Z, FP, e, o⟩ => (po_none (X := X)).run pins s σ H Q I (out_ok (show Out X W H Z σ _ (.ok none) from o) .refl)⟩
theorem snd_so (ha : PE X a (GE X W fa)) : PO X (some a) (GO X W fun ρ => fa ρ >>= fun x => .ok (some x)) := ⟨fun pins s σ H Q I ⟨ρ, Z, FP, e, o⟩ => (po_some ha).run pins s σ H Q I (by
  rw [res_assoc] at o
  refine GE.bind' e o fun x v H1 Z1 _ x1 r1 e1 o1 => ?_
  obtain ⟨m, d⟩ := x
  have o1 : Out X W H Z σ (fun (l : Option Int) H' _ => Q l H') (intO (some (m, d))) := o1
  cases d <;> first | exact o1.elim | exact ⟨_, res_int r1, out_ok o1 x1⟩)⟩
theorem snd_sl {lo hi : Option Expr} {fl fh : Rho → Res (Option (Mo × D))} {p2 : Pos} (ha : PE X a (GE X W fa)) (hl : PO X lo (GO X W fl)) (hh : PO X hi (GO X W fh)) :
    PE X (.Subscript a (.Slice lo hi none p2) pos) (GE X W (fun ρ => fa ρ >>= fun x => fl ρ >>= fun l => intO l >>= fun l => fh ρ >>= fun h => intO h >>= fun h => optR (slG x l h))) :=
  PE.imp (pe_slice sl_all ha hl hh) fun σ H Q ⟨ρ, Z, FP, e, o⟩ => by
    refine GE.bind' e o fun x v H1 Z1 _ x1 r1 e1 o1 => ?_
    have o1 := Out.step o1 x1
    rw [← res_assoc] at o1
    refine ⟨ρ, Z1, FP, e1, Out.bind' o1 fun l H2 Z2 _ x2 o2 => ?_⟩
    have o2 := Out.step o2 x2
    rw [← res_assoc] at o2
    refine ⟨ρ, Z2, FP, x2.env e1, Out.bind' o2 fun h H3 Z3 _ x3 o3 => ?_⟩
    have o3 := Out.step o3 x3
    obtain ⟨c2, hc, o4⟩ := out_opt o3
    have e3 := x3.env (x2.env e1)
    exact sl_ok (x1.trans (x2.trans x3)).same e3.zd (r1.ext (x2.trans x3)) hc fun w H4 Z4 x4 r4 => out_ok o4 x4 _ r4
theorem snd_rev {j : Nat} {p1 p2 p3 : Pos} (ha : PE X a (GE X W fa)) : PE X (.Subscript a (.Slice none none (some (.UnaryOp .USub (.Constant (.int 1) j p1) p2)) p3) pos) (GE X W (fun ρ => fa ρ >>= fun x => optR (revG x))) :=
  PE.imp (pe_revL ha) fun σ H Q ⟨ρ, Z, FP, e, o⟩ => by
    refine GE.bind' e o fun x v H1 Z1 _ x1 r1 e1 o1 => ?_
    have o1 := Out.step o1 x1
    obtain ⟨c2, hc, o4⟩ := out_opt o1
    exact rev_ok x1.same e1.zd r1 hc fun w H4 Z4 x4 r4 => out_ok o4 x4 _ r4
end
end Pi

set_option Elab.async false
set_option linter.all false
set_option maxRecDepth 100000
set_option maxHeartbeats 4000000
/-! Pi10: argument lists, displays, calls. -/
namespace Pi
open PySem PySem.Spec PyProof.Rows L2

/-! ### argument lists -/
section
variable {K : Fr} {H H0 H1 H2 : Hp} {Z Z1 Z2 : Addr → Prop} {FP : Nat → List Addr}
theorem ResL.new : ∀ {as : List (Mo × D)} {G : List Addr} {vs : List V}, ResL K H H1 Z1 FP as G vs → ∀ a ∈ G, H a = none
  | [], _, _, h, a, ha => by simp only [ResL] at h; rw [h.1] at ha; simp at ha
  | (m, d) :: r, _, _, h, a, ha => by
    simp only [ResL] at h
    obtain ⟨v, vs', G1, G2, e, eG, _, h1, h2⟩ := h
    rw [eG] at ha
    rcases List.mem_append.mp ha with ha | ha
    · cases m with
      | fz => rw [h1.1] at ha; simp at ha
      | ow => exact h1.2 a ha
      | bo => rw [h1.1] at ha; simp at ha
    · exact ResL.new h2 a ha
theorem ResL.there : ∀ {as : List (Mo × D)} {G : List Addr} {vs : List V}, ResL K H H1 Z1 FP as G vs → ∀ a ∈ G, ¬ Z1 a ∧ H1 a ≠ none
  | [], _, _, h, a, ha => by simp only [ResL] at h; rw [h.1] at ha; simp at ha
  | (m, d) :: r, _, _, h, a, ha => by
    simp only [ResL] at h
    obtain ⟨v, vs', G1, G2, e, eG, _, h1, h2⟩ := h
    rw [eG] at ha
    rcases List.mem_append.mp ha with ha | ha
    · cases m with
      | fz => rw [h1.1] at ha; simp at ha
      | ow =>
        obtain ⟨z, u, hu, _⟩ := Own.dom d G1 v h1.1 a ha
        exact ⟨z, by rw [hu]; simp⟩
      | bo => rw [h1.1] at ha; simp at ha
    · exact ResL.there h2 a ha
theorem ResL.back (s : Same H0 H) : ∀ {as : List (Mo × D)} {G : List Addr} {vs : List V}, ResL K H H1 Z1 FP as G vs → ResL K H0 H1 Z1 FP as G vs
  | [], _, _, h => by simp only [ResL] at h ⊢; exact h
  | (m, d) :: r, _, _, h => by
    simp only [ResL] at h ⊢
    obtain ⟨v, vs', G1, G2, e, eG, dj, h1, h2⟩ := h
    refine ⟨v, vs', G1, G2, e, eG, dj, ?_, ResL.back s h2⟩
    cases m with
    | fz => exact h1
    | ow => exact ⟨h1.1, fun a ha => s.free (h1.2 a ha)⟩
    | bo => exact h1
def noBo (as : List (Mo × D)) : Bool := !(as.any fun a => decide (a.1 = .bo))
/-- all that is new is frozen -/
theorem ResL.frozen {Zf : Addr → Prop} (z : ∀ a, Z1 a → Zf a) : ∀ {as : List (Mo × D)} {G : List Addr} {vs : List V}, ResL K H H1 Z1 FP as G vs → (∀ a ∈ G, Zf a) → (noBo as = true ∨ ∀ i, ∀ a ∈ FP i, Zf a) → RepL K H1 Zf (as.map (·.2)) vs
  | [], _, _, h, _, _ => by simp only [ResL] at h; simp only [List.map_nil, RepL]; exact h.2
  | (m, d) :: r, _, _, h, hG, hb => by
    simp only [ResL] at h
    obtain ⟨v, vs', G1, G2, e, eG, dj, h1, h2⟩ := h
    subst eG
    simp only [List.map_cons, RepL]
    refine ⟨v, vs', e, ?_, ResL.frozen z h2 (fun a ha => hG a (List.mem_append_right _ ha)) (hb.imp (fun h => by unfold noBo at h ⊢; simp only [List.any_cons, Bool.not_or, Bool.and_eq_true] at h; exact h.2) id)⟩
    cases m with
    | fz => exact Rep.kp .refl z _ _ h1.2
    | ow => exact Own.rep z d G1 v (fun a ha => hG a (List.mem_append_left _ ha)) h1.1
    | bo =>
      obtain ⟨_, F, o, hF⟩ := h1
      refine Own.rep z d F v (fun a ha => ?_) o
      rcases hb with hb | hb
      · unfold noBo at hb
        simp at hb
      · obtain ⟨i, hi⟩ := hF a ha
        exact hb i a hi
theorem Ext.freeze {G : List Addr} (x : Ext H Z H1 Z1) (hn : ∀ a ∈ G, H a = none) (ht : ∀ a ∈ G, H1 a ≠ none) : Ext H Z H1 (fun a => Z1 a ∨ a ∈ G) :=
  ⟨x.same, fun a h => .inl (x.z a h), fun a h => h.elim (x.zn a) fun h => .inr ⟨hn a h, ht a h⟩⟩
end
section
variable {X : Cx} {W : WX} {a b c e : Expr} {es : List Expr} {pos : Pos} {fa fb fc f : Rho → Res (Mo × D)} {g : Rho → Res (List (Mo × D))}
theorem snd_anil : PA X [] (GA X W fun _ => .ok []) := PA.imp pa_nil fun σ H Q ⟨ρ, Z, FP, e, o⟩ => out_ok o .refl [] [] (by simp only [ResL]; exact ⟨trivial, trivial⟩)
theorem plainE_star {e : Expr} (h : plainE e = true) (es : List Expr) (env : Env) : starEach (e :: es) env = (false, eval e env) :: starEach es env := by
  cases e <;> first | (cases h; done) | rfl
def fCons (f : Rho → Res (Mo × D)) (g : Rho → Res (List (Mo × D))) : Rho → Res (List (Mo × D)) := fun ρ => f ρ >>= fun x => g ρ >>= fun as => .ok (x :: as)
theorem snd_acons (hp : plainE e = true) (he : PE X e (GE X W f)) (hr : PA X es (GA X W g)) : PA X (e :: es) (GA X W (fCons f g)) :=
  PA.imp (pa_cons he hr (plainE_star hp es X.env)) fun σ H Q ⟨ρ, Z, FP, e, o⟩ => by
    refine GE.bind' e o fun x v H1 Z1 _ x1 r1 e1 o1 => ?_
    have o1 := Out.step o1 x1
    refine GA.bind' e1 o1 fun as G vs H2 Z2 _ x2 r2 e2 o2 => ?_
    obtain ⟨m, d⟩ := x
    have r3 := r1.ext x2
    have o3 := out_ok o2 x2
    have r2' := r2.back x1.same
    cases m with
    | fz =>
      refine o3 G (v :: vs) ?_
      simp only [ResL]
      exact ⟨v, vs, [], G, rfl, rfl, by simp, ⟨rfl, r3⟩, r2'⟩
    | ow =>
      obtain ⟨G1, h1, h2⟩ := r1
      refine o3 (G1 ++ G) (v :: vs) ?_
      simp only [ResL]
      refine ⟨v, vs, G1, G, rfl, rfl, fun a ha hg => ?_, ⟨x2.own h1, h2⟩, r2'⟩
      obtain ⟨_, u, hu, _⟩ := Own.dom d G1 v h1 a ha
      rw [r2.new a hg] at hu
      cases hu
    | bo =>
      refine o3 G (v :: vs) ?_
      simp only [ResL]
      exact ⟨v, vs, [], G, rfl, rfl, by simp, ⟨rfl, r3⟩, r2'⟩

/-! ### displays -/
theorem ResL.length {K : Fr} {H H1 : Hp} {Z1 : Addr → Prop} {FP : Nat → List Addr} : ∀ {as : List (Mo × D)} {G : List Addr} {vs : List V}, ResL K H H1 Z1 FP as G vs → vs.length = as.length
  | [], _, _, h => by simp only [ResL] at h; rw [h.2]; rfl
  | (m, d) :: r, _, _, h => by
    simp only [ResL] at h
    obtain ⟨v, vs', G1, G2, e, _, _, _, h2⟩ := h
    rw [e, List.length_cons, List.length_cons, ResL.length h2]
theorem snd_tup {j : Nat} (h : PA X es (GA X W g)) : PE X (.Tuple es j pos) (GE X W fun ρ => g ρ >>= fun as => optR (tupDG as)) :=
  PE.imp (pe_tup h) fun σ H Q ⟨ρ, Z, FP, e, o⟩ => by
    refine GA.bind' e o fun as G vs H1 Z1 _ x1 r1 e1 o1 => ?_
    obtain ⟨c2, hc, o4⟩ := out_opt o1
    unfold tupDG at hc
    split at hc
    · cases hc
    · rename_i hh
      cases hc
      have nb : noBo as = true := by
        unfold noBo
        cases hb : (as.any fun a => decide (a.1 = .bo)) with
        | true => exact absurd (.inl hb) hh
        | false => rfl
      have hl : as.length ≤ sizeLine := Classical.byContradiction fun z => hh (.inr z)
      refine ⟨by rw [r1.length]; exact hl, fun p hp => ?_⟩
      have x2 := Ext.freeze x1 r1.new (fun a ha => (r1.there a ha).2)
      obtain ⟨x3, x4⟩ := new_tup hp (r1.frozen (Zf := fun a => Z1 a ∨ a ∈ G) (fun a h => .inl h) (fun a ha => .inr ha) (.inl nb))
      exact out_ok o4 (x2.trans x3) _ x4
theorem snd_lst (h : PA X es (GA X W g)) : PE X (.List es pos) (GE X W fun ρ => g ρ >>= fun as => optR (lstG as)) :=
  PE.imp (pe_lst h) fun σ H Q ⟨ρ, Z, FP, e, o⟩ => by
    refine GA.bind' e o fun as G vs H1 Z1 _ x1 r1 e1 o1 => ?_
    obtain ⟨c2, hc, o4⟩ := out_opt o1
    unfold lstG at hc
    split at hc
    · cases hc
    · rename_i hh
      cases hc
      have nb : noBo as = true := by
        unfold noBo
        cases hb : (as.any fun a => decide (a.1 = .bo)) with
        | true => exact absurd (.inl hb) hh
        | false => rfl
      have hl : as.length ≤ sizeLine := Classical.byContradiction fun z => hh (.inr z)
      refine ⟨by rw [r1.length]; exact hl, fun p hp => ?_⟩
      have x2 := Ext.freeze x1 r1.new (fun a ha => (r1.there a ha).2)
      have e2 := x2.env e
      obtain ⟨Z', x3, x4⟩ := new_lst (FP := FP) e2.zd x2.same hp (r1.frozen (fun a h => .inl h) (fun a ha => .inr ha) (.inl nb))
      exact out_ok o4 (x2.trans x3) _ x4
/-- list(..), len(..), .. -/
theorem snd_fn {r : List V → Hp → VK → Prop} {q : List (Mo × D) → Option (Mo × D)} (h : OpN X r q) (σ : Pi.St) (H : Hp) (Q : VK) (x : GE X W (fun ρ => g ρ >>= fun as => optR (q as)) σ H Q) : tCB r (GA X W g) σ H Q := by
  obtain ⟨ρ, Z, FP, e, o⟩ := x
  refine GA.bind' e o fun as G vs H1 Z1 _ x1 r1 e1 o1 => ?_
  obtain ⟨c2, hc, o4⟩ := out_opt (Out.step o1 x1)
  exact h FP H H1 Z1 Q as c2 G vs x1.same e1.zd r1 hc fun v H' Z' x r => out_ok o4 x _ r
/-! ### methods -/
/-- ty tells the type T -/
def TyIs (X : Cx) (T : String) (ty : V → Hp → Prop) : Prop := ∀ (pins : List (Addr × Obj)) (σ : L2.St) (H : Hp) (s : Shared) (x : V) (v : Value), Inv X pins σ H s → RelV x v → ty x H → s.TypeIs v T ∧ ∀ a, v = .ref a → ∃ ob, s.heap.get? a = some ob ∧ ob.dict = none
def tBX (ty : V → Hp → Prop) (r : V → List V → Hp → VK → Prop) (to : TE) (t : TA) : TE := fun σ H Q => to σ H fun x H1 => ty x H1 ∧ t σ H1 fun xs H2 => r x xs H2 Q
theorem pe_bmX {o : Expr} {to : TE} {t : TA} {name : Str} {apos cpos : Pos} {T id : String} {r : V → List V → Hp → VK → Prop} {ty : V → Hp → Prop} (ht : TyIs X T ty) (pa : PlainAttrs T) (slot : Slot T name id) (hty : typeOf (.builtin id) = pure (.type "method_descriptor")) (hm : MtR X id r) (ho : PE X o to) (ha : PA X (e :: es) t)
    (hbase : attributeBase o name X.env (eval o X.env) = eval o X.env)
    (hfew : ((backTo cpos (starEach (e :: es) X.env)).all (fun x => !x.1) && (backToKw cpos (keywordEach [] X.env)).all (fun x => x.1.isSome)
      && decide ((e :: es).length + ([] : List Keyword).length + (if ([] : List Keyword).isEmpty then 0 else 1) < 30)) = true)
    (hline : (apos.endLine == cpos.line) = true) (hs : starEach (e :: es) X.env = (false, eval e X.env) :: starEach es X.env) (hplain : (backTo cpos (starEach es X.env)).any (·.1) = false) :
    PE X (.Call (.Attribute o name apos) (e :: es) [] cpos) (tBX ty r to t) := by
  refine ⟨fun pins s σ H Q I h => ?_⟩
  refine wpAny_Call_method_late hbase hfew hline rfl (thn (ho.run pins s σ H _ I h) fun v s1 ⟨x, H1, I1, r1, hx, q1⟩ => ?_)
  obtain ⟨h1, h2⟩ := ht pins σ H1 s1 x v I1 r1 hx
  refine ⟨T, id, pa, slot, hty, h1, h2, ?_⟩
  have hA := ha.run cpos pins s1 σ H1 _ I1 q1
  rw [hs] at hA ⊢
  refine Calls.callWith_builtin (by show (false || (backTo cpos (starEach es X.env)).any (·.1)) = false; rw [hplain] <;> rfl) (Calls.evalArgs_plain ?_)
  exact thn hA fun us s2 ⟨vs, H2, I2, r2, q2⟩ => hm pins s2 σ H2 x vs v us Q I2 r1 r2 q2
theorem ty_tyV {T : String} : TyIs X T (tyV X.K T) := fun pins σ H s x v I r h => tyV_is I r h
def tyDic (K : Fr) (x : V) (H : Hp) : Prop := ∃ a, x = .ref a ∧ (IsD H a ∨ ∃ kvs, H a = some (ND K a kvs))
theorem ty_dic : TyIs X "dict" (tyDic X.fr) := fun pins σ H s x v I r ⟨a, e, h⟩ => by
  subst e
  obtain rfl : v = Value.ref a := r
  rcases h with h | ⟨kvs, h⟩
  · obtain ⟨t1, t2, _⟩ := isD_at I h
    exact ⟨t1, t2⟩
  · obtain ⟨z, hd, vs, rel, dd⟩ := nd_of I h
    refine ⟨dd.typeIs, fun b q => ?_⟩
    cases q
    obtain ⟨ob, _, _, h1, h2, _⟩ := dd
    exact ⟨ob, h1, h2.2.1⟩
theorem recv_base {o : Expr} (h : recvE o = true) (m : Str) (env : Env) (w : Sem Value) : attributeBase o m env w = w := by
  unfold attributeBase
  split
  · cases h
  · rfl
theorem few1 {e : Expr} (h : plainE e = true) (cpos : Pos) (env : Env) : ((backTo cpos (starEach [e] env)).all (fun x => !x.1) && (backToKw cpos (keywordEach [] env)).all (fun x => x.1.isSome)
      && decide (([e] : List Expr).length + ([] : List Keyword).length + (if ([] : List Keyword).isEmpty then 0 else 1) < 30)) = true := by
  rw [plainE_star h]
  rfl
theorem pa_one {t : TE} (hp : plainE e = true) (he : PE X e t) : PA X [e] (tCons t tNil) := pa_cons he pa_nil (plainE_star hp [] X.env)
theorem snd_m1 {o : Expr} {name : Str} {apos cpos : Pos} {T id : String} {r : V → List V → Hp → VK → Prop} {ty : V → Hp → Prop} {q : Mo × D → Mo × D → Option (Mo × D)} {rc : D → Bool} (ht : TyIs X T ty) (pa : PlainAttrs T) (slot : Slot T name id) (hty : typeOf (.builtin id) = pure (.type "method_descriptor")) (hm : MtR X id r) (h : OpM1 X r q)
    (hT : ∀ (H1 : Hp) (Z1 : Addr → Prop) (H : Hp) (FP : Nat → List Addr) (x : Mo × D) (v : V), ResOk X.fr H H1 Z1 FP x.1 x.2 v → rc x.2 = true → ty v H1) (ho : PE X o (GE X W fa)) (ha : PE X e (GE X W fb)) (hp : plainE e = true) (hr : recvE o = true) (hl : (apos.endLine == cpos.line) = true) :
    PE X (.Call (.Attribute o name apos) [e] [] cpos) (GE X W (fun ρ => fa ρ >>= fun x => if rc x.2 = true then fb ρ >>= fun y => op2 q x y else .st)) :=
  PE.imp (pe_bmX ht pa slot hty hm ho (pa_one hp ha) (recv_base hr _ _ _) (few1 hp _ _) hl (plainE_star hp [] X.env) rfl) fun σ H Q ⟨ρ, Z, FP, e, o⟩ => by
    refine GE.bind' e o fun x v H1 Z1 _ x1 r1 e1 o1 => ?_
    split at o1
    · rename_i hx
      refine ⟨hT H1 Z1 H FP x v r1 hx, ?_⟩
      refine GE.bind' e1 (Out.step o1 x1) fun y u H2 Z2 _ x2 r2 e2 o2 => ?_
      have o2 := Out.step o2 x2
      rw [← bind_ok (op2 q x y)] at o2
      obtain ⟨z, hz, o3⟩ := out_op2 o2
      exact h FP H H2 Z2 Q x y z v u (x1.trans x2).same e2.zd (r1.ext x2) (r2.back x1.same) hz fun w H3 Z3 x3 r3 => out_ok o3 x3 _ r3
    · exact o1.elim
/-- d.get(y) -/
def rGetD (K : Fr) : V → List V → Hp → VK → Prop := fun x xs H Q => (∃ a y o, x = .ref a ∧ xs = [y] ∧ DGet H a y o ∧ Q (o.getD .non) H) ∨ ∃ a kvs k, x = .ref a ∧ H a = some (ND K a kvs) ∧ xs = [nkV k] ∧ Q ((valV kvs k).getD .non) H
theorem mt_getD (hu : X.A.units + 1 < cLine) : MtR X "dict.get" (rGetD X.fr) := by
  intro pins s σ H x xs v us Q I rx rs h
  rcases h with ⟨a, y, o, e1, e2, g, q⟩ | ⟨a, kvs, k, e1, g, e2, q⟩
  · subst e1 e2
    obtain ⟨u, eu, ry⟩ := vals1 rs
    subst eu
    obtain rfl : v = Value.ref a := rx
    exact d_get1 hu I g ry fun w' s' I' rw' => ⟨_, H, I', rw', q⟩
  · subst e1 e2
    obtain ⟨u, eu, ry⟩ := vals1 rs
    subst eu
    obtain rfl : v = Value.ref a := rx
    exact nd_get1 I g ry fun w' s' I' rw' => ⟨_, H, I', rw', q⟩
theorem ResOk.dict2 {K : Fr} {H H0 : Hp} {Z : Addr → Prop} {FP : Nat → List Addr} {m : Mo} {ks vs : List D} {v : V} (h : ResOk K H0 H Z FP m (.dic 2 ks vs) v) (e : dvOk m vs = true) :
    ∃ a kvs, v = .ref a ∧ H a = some (ND K a kvs) ∧ ks = kvs.map (fun p => nkD p.1) ∧ RepL K H Z vs (kvs.map (·.2)) := by
  have key : ∀ G, Own K H Z (.dic 2 ks vs) G v → vs.all D.atom = true → ∃ a kvs, v = .ref a ∧ H a = some (ND K a kvs) ∧ ks = kvs.map (fun p => nkD p.1) ∧ RepL K H Z vs (kvs.map (·.2)) := fun G o ha => by
    simp only [Own, DcOwn] at o
    obtain ⟨a, xs, G', e, _, ⟨kvs, q, ek, ex⟩, _, _, r⟩ := o
    subst ex
    exact ⟨a, kvs, e, q, ek, (atoms_ownL ha r).2⟩
  unfold dvOk at e
  rw [Bool.or_eq_true, decide_eq_true_eq] at e
  cases m with
  | fz =>
    have h : Rep K H Z (.dic 2 ks vs) v := h
    simp only [Rep, DcAt] at h
    obtain ⟨a, xs, e, ⟨kvs, q, e2, e3⟩, _, r⟩ := h
    exact ⟨a, kvs, e, q, e2, e3 ▸ r⟩
  | ow =>
    obtain ⟨G, o, _⟩ := h
    exact key G o (e.resolve_left (fun z => by cases z))
  | bo =>
    obtain ⟨G, o, _⟩ := h
    exact key G o (e.resolve_left (fun z => by cases z))
theorem get_ok : OpM1 X (rGetD X.fr) getG := fun FP H0 H Z Q a b c x y s zd r1 r2 e q => by
  obtain ⟨m1, d1⟩ := a
  unfold getG at e
  split at e
  · rename_i ks vs h1
    split at e <;> cases e
    rename_i hl
    simp only at h1 hl
    subst h1
    obtain ⟨a, e3, _, g⟩ := dget_res r1 hl.1 r2 hl.2
    refine .inl ?_
    split at g
    · rename_i d hd
      obtain ⟨v, g1, g2⟩ := g
      rw [hd] at q
      exact ⟨a, y, _, e3, rfl, g1, q _ H Z .refl g2⟩
    · rename_i hd
      rw [hd] at q
      exact ⟨a, y, _, e3, rfl, g, q _ H Z .refl fz_non⟩
  · rename_i ks vs h1
    split at e <;> cases e
    rename_i hl
    simp only at h1 hl
    subst h1
    obtain ⟨a, kvs, e3, q1, e4, l1⟩ := r1.dict2 hl.1
    obtain ⟨nk, hn⟩ := Option.isSome_iff_exists.mp hl.2
    obtain ⟨e5, e6⟩ := nkey_rep hn r2.read
    have g := nlook_val nk kvs vs l1
    rw [e4, e6] at q
    refine .inr ⟨a, kvs, nk, e3, q1, by rw [e5], ?_⟩
    split at g
    · rename_i d hd
      obtain ⟨v, g1, g2⟩ := g
      rw [hd] at q
      rw [g1]
      exact q _ H Z .refl g2
    · rename_i hd
      rw [hd] at q
      rw [g]
      exact q _ H Z .refl fz_non
  · cases e
end
end Pi

set_option Elab.async false
set_option linter.all false
set_option maxRecDepth 100000
set_option maxHeartbeats 4000000
/-! Pi11: calls of own defs and built-in functions. -/
namespace Pi
open PySem PySem.Spec PyProof.Rows L2

/-! ### flat data lean on nothing frozen -/
mutual
theorem flat_rep {K : Fr} {H : Hp} {Z Z' : Addr → Prop} : ∀ (d : D) (v : V), d.flat = true → Rep K H Z d v → Rep K H Z' d v
  | .non, v, _, h => by simp only [Rep] at h ⊢; exact h
  | .bl _, v, _, h => by simp only [Rep] at h ⊢; exact h
  | .int _, v, _, h => by simp only [Rep] at h ⊢; exact h
  | .str _, v, _, h => by simp only [Rep] at h ⊢; exact h
  | .tup ds, v, f, h => by
    simp only [Rep] at h ⊢
    obtain ⟨a, xs, e, q, r⟩ := h
    refine ⟨a, xs, e, q, flat_repL ds xs (fun d hd => ?_) r⟩
    unfold D.flat at f
    rw [List.all_eq_true] at f
    exact f ⟨d, hd⟩ (List.mem_attach ds ⟨d, hd⟩)
  | .lst _, v, f, _ => by unfold D.flat at f; cases f
  | .dic _ _ _, v, f, _ => by unfold D.flat at f; cases f
  | .scr _, v, f, _ => by unfold D.flat at f; cases f
theorem flat_repL {K : Fr} {H : Hp} {Z Z' : Addr → Prop} : ∀ (ds : List D) (xs : List V), (∀ d ∈ ds, d.flat = true) → RepL K H Z ds xs → RepL K H Z' ds xs
  | [], _, _, h => by simp only [RepL] at h ⊢; exact h
  | d :: ds, _, f, h => by
    simp only [RepL] at h ⊢
    obtain ⟨v, r, e, h1, h2⟩ := h
    exact ⟨v, r, e, flat_rep d v (f d List.mem_cons_self) h1, flat_repL ds r (fun d hd => f d (List.mem_cons_of_mem _ hd)) h2⟩
end
theorem flat_atom {d : D} (h : d.flat = true) : d.atom = true := by
  cases d <;> first | rfl | (unfold D.flat at h; cases h)
theorem flat_ownL {K : Fr} {H : Hp} {Z Z' : Addr → Prop} {ds : List D} {G : List Addr} {xs : List V} (f : ds.all D.flat = true) (h : OwnL K H Z ds G xs) : OwnL K H Z' ds G xs := by
  have fa : ∀ d ∈ ds, d.flat = true := fun d hd => List.all_eq_true.mp f d hd
  have ha : ds.all D.atom = true := List.all_eq_true.mpr fun d hd => flat_atom (fa d hd)
  obtain ⟨e, r⟩ := atoms_ownL ha h
  rw [e]
  exact ownL_atoms ha (flat_repL ds xs fa r)
theorem flat_own {K : Fr} {H : Hp} {Z Z' : Addr → Prop} (z : ∀ a, Z' a → Z a) {d : D} {G : List Addr} {v : V} (f : flatR d = true) (h : Own K H Z d G v) : Own K H Z' d G v := by
  cases d with
  | lst ds =>
    simp only [Own] at h ⊢
    obtain ⟨a, xs, G', e, eG, q, nz, na, r⟩ := h
    exact ⟨a, xs, G', e, eG, q, fun h => nz (z a h), na, flat_ownL f r⟩
  | dic k ks vs =>
    simp only [Own] at h ⊢
    obtain ⟨a, xs, G', e, eG, q, nz, na, r⟩ := h
    exact ⟨a, xs, G', e, eG, q, fun h => nz (z a h), na, flat_ownL f r⟩
  | non => simp only [Own] at h ⊢; exact ⟨h.1, flat_rep _ _ f h.2⟩
  | bl b => simp only [Own] at h ⊢; exact ⟨h.1, flat_rep _ _ f h.2⟩
  | int i => simp only [Own] at h ⊢; exact ⟨h.1, flat_rep _ _ f h.2⟩
  | str s => simp only [Own] at h ⊢; exact ⟨h.1, flat_rep _ _ f h.2⟩
  | tup ds => simp only [Own] at h ⊢; exact ⟨h.1, flat_rep _ _ f h.2⟩
  | scr ns => simp only [Own] at h ⊢; exact ⟨h.1, flat_rep _ _ f h.2⟩

section
variable {X : Cx} {W : WX} {a b c e : Expr} {es : List Expr} {pos : Pos} {fa fb fc f : Rho → Res (Mo × D)} {g : Rho → Res (List (Mo × D))}
/-- what a def promises, used -/
theorem spP_use {n : Nat} {F : List D → Res (Mo × D)} {H H1 : Hp} {Z Z1 : Addr → Prop} {FP : Nat → List Addr} {as : List (Mo × D)} {G : List Addr} {vs : List V} {Q : VK} {σ : Pi.St} {ρ : Rho} (hl : as.length = n) (e : EnvOk X.fr H Z ρ σ FP) (x1 : Ext H Z H1 Z1) (r1 : ResL X.fr H H1 Z1 FP as G vs)
    (o : Out X W H Z σ (QE X H FP Q) (callG F as)) : spP X.fr X.mg n F vs H1 Q (WE W σ) := by
  have e1 := x1.env e
  have xf := Ext.freeze x1 r1.new (fun a ha => (r1.there a ha).2)
  unfold callG at o
  cases hb : (as.any fun a => decide (a.1 = .bo)) with
  | false =>
    have nb : noBo as = true := by unfold noBo; rw [hb]; rfl
    refine ⟨as.map (·.2), fun a => Z1 a ∨ a ∈ G, by rw [List.length_map]; exact hl, (xf.env e).zd, r1.frozen (fun a h => .inl h) (fun a h => .inr h) (.inl nb), ?_⟩
    cases hF : F (as.map (·.2)) with
    | ok r =>
      obtain ⟨m, d⟩ := r
      simp only [hF] at o ⊢
      split at o
      · exact o.elim
      · rename_i hh
        refine ⟨fun hm => hh (.inl hm), fun v H' Z' x2 r2 => out_ok o (xf.trans x2) v ?_⟩
        cases m with
        | fz => exact r2
        | ow =>
          obtain ⟨G2, h1, h2⟩ := r2
          exact ⟨G2, h1, fun a ha => xf.same.free (h2 a ha)⟩
        | bo => exact absurd (.inl rfl) hh
    | er c p =>
      simp only [hF] at o ⊢
      exact fun H' Z' x2 => o H' Z' (xf.trans x2)
    | st =>
      simp only [hF] at o ⊢
      exact o
  | true =>
    have zd : ∀ a, (Z1 a ∨ a ∈ G ∨ ∃ i, a ∈ FP i) → H1 a ≠ none := fun a h => by
      rcases h with h | h | ⟨i, h⟩
      · exact e1.zd a h
      · exact (r1.there a h).2
      · obtain ⟨_, u, hu, _⟩ := e1.dom h
        rw [hu]; simp
    have back : ∀ {H' : Hp} {Z' : Addr → Prop}, Ext H1 (fun a => Z1 a ∨ a ∈ G ∨ ∃ i, a ∈ FP i) H' Z' → Ext H Z H' (fun a => Z1 a ∨ a ∈ G) := fun {H' Z'} x2 =>
      ⟨xf.same.trans x2.same, fun a h => .inl (x1.z a h), fun a h => (xf.zn a h).imp id fun q => ⟨q.1, fun z => q.2 (x2.same.free z)⟩⟩
    refine ⟨as.map (·.2), fun a => Z1 a ∨ a ∈ G ∨ ∃ i, a ∈ FP i, by rw [List.length_map]; exact hl, zd, r1.frozen (fun a h => .inl h) (fun a h => .inr (.inl h)) (.inr fun i a h => .inr (.inr ⟨i, h⟩)), ?_⟩
    cases hF : F (as.map (·.2)) with
    | ok r =>
      obtain ⟨m, d⟩ := r
      simp only [hF] at o ⊢
      split at o
      · exact o.elim
      · rename_i hh
        have hh2 : ¬ (flatR d = false ∨ (m = .fz ∧ d.atom = false)) := fun z => hh (.inr ⟨hb, z⟩)
        have hf : flatR d = true := by
          cases h : flatR d with
          | true => rfl
          | false => exact absurd (.inl h) hh2
        refine ⟨fun hm => hh (.inl hm), fun v H' Z' x2 r2 => out_ok o (back x2) v ?_⟩
        cases m with
        | fz =>
          have ha : d.atom = true := by
            cases h : d.atom with
            | true => rfl
            | false => exact absurd (.inr ⟨rfl, h⟩) hh2
          have hfl : d.flat = true := by
            cases d <;> first | exact hf | (cases ha; done)
          exact flat_rep d v hfl r2
        | ow =>
          obtain ⟨G2, h1, h2⟩ := r2
          exact ⟨G2, flat_own (fun a h => x2.z a (h.imp id .inl)) hf h1, fun a ha => xf.same.free (h2 a ha)⟩
        | bo => exact absurd (.inl rfl) hh
    | er c p =>
      simp only [hF] at o ⊢
      exact fun H' Z' x2 => o H' _ (back x2)
    | st =>
      simp only [hF] at o ⊢
      exact o
theorem stars_any {pos : Pos} {env : Env} : ∀ {es : List Expr}, es.all plainE = true → (backTo pos (starEach es env)).any (·.1) = false
  | [], _ => rfl
  | e :: es, h => by
    rw [List.all_cons, Bool.and_eq_true] at h
    rw [plainE_star h.1]
    show (false || (backTo pos (starEach es env)).any (·.1)) = false
    rw [stars_any h.2]
    rfl
theorem pe_callS0 {CX : CXT} {k : Nat} {f : Addr} {fd : FuncData} {ps : List Str} {sp : Sp} {E : L2.St → XK} {x : Str} {p : Pos} (F : FnOk X.prog X.w X.K X.mg X.base CX k f fd ps sp) (hr : Room k X.A) (hg : Gl X x) (hm : X.mg x = some (.ref f)) (hk : PySem.W.keepIn X.K (.ref f) = true) (hb : Binds X.K fd ps []) (hx : ∀ σ, PassesAt CX X σ (E σ))
    (hdb : (x == ("__debug__" : Str)) = false) : PE X (.Call (.Name x p) [] [] pos) (tCallS sp E tNil) := by
  refine ⟨fun pins s σ H Q I h => ?_⟩
  refine wpAny_Call_Name_kw (ld_glob I hg hm ?_ hdb)
  exact PySem.W.callWith_K0 I.kIn hk (run_fnS (us := []) F hr hb (hx σ) I .nil h)
theorem snd_call {T : Tab} {fi : Nat} {x : Str} {p : Pos} (hT : TabOk T X) (tk : Takes X W) (hf : T.fn[fi]?.map (fun p => (p.1, p.2.1)) = some (x, es.length)) (hg : Gl X x) (hd : (x == ("__debug__" : Str)) = false) (hp : es.all plainE = true)
    (hlen : ∀ ρ as, g ρ = .ok as → as.length = es.length) (hnil : es = [] → ∀ ρ, g ρ = .ok []) (ha : PA X es (GA X W g)) :
    PE X (.Call (.Name x p) es [] pos) (GE X W (fun ρ => g ρ >>= fun as => match T.fn[fi]? with
      | some p => callG p.2.2 as
      | none => .st)) := by
  rw [Option.map_eq_some_iff] at hf
  obtain ⟨⟨y, n, F⟩, e1, e2⟩ := hf
  simp only [Prod.mk.injEq] at e2
  obtain ⟨rfl, rfl⟩ := e2
  obtain ⟨k, ad, fd, ps, hm, hk, hb, hr, hn, FO⟩ := hT.fn fi _ _ F e1
  have fin : PE X (.Call (.Name y p) es [] pos) (tCallS (spP X.fr X.mg es.length F) (WE W) (GA X W g)) := by
    cases es with
    | nil =>
      refine PE.imp (pe_callS0 FO hr hg hm hk hb (fun σ => passAt tk σ) hd) fun σ H Q h => ?_
      obtain ⟨ρ, Z, FP, e, o⟩ := h
      rw [hnil rfl ρ] at o
      exact out_ok o .refl [] [] (by simp only [ResL]; exact ⟨trivial, trivial⟩)
    | cons x es =>
      rw [List.all_cons, Bool.and_eq_true] at hp
      exact pe_callS FO hr hg hm hk hb (fun σ => passAt tk σ) ha hd (plainE_star hp.1 _ _) (stars_any hp.2)
  refine PE.imp fin fun σ H Q ⟨ρ, Z, FP, e, o⟩ => ?_
  refine GA.bind' e o fun as G vs H1 Z1 e0 x1 r1 e1' o1 => ?_
  rw [e1] at o1
  exact spP_use (hlen ρ as e0) e x1 r1 o1

/-! ### built-in functions -/
theorem bi_ok (hc : X.calm = true) (b : Bi) : ∃ f r, bootBuiltins b.name = some f ∧ ((∃ id, f = .builtin id) ∨ ∃ T, f = .type T) ∧ CallR X f r ∧ OpN X r b.g := by
  cases b
  · exact ⟨_, _, by decide +kernel, .inl ⟨"len", rfl⟩, call_lenAll, len_ok⟩
  · exact ⟨_, _, by decide +kernel, .inl ⟨"abs", rfl⟩, call_abs, abs_ok⟩
  · exact ⟨_, _, by decide +kernel, .inr ⟨"int", rfl⟩, call_int1, int_ok⟩
  · exact ⟨_, _, by decide +kernel, .inl ⟨"all", rfl⟩, cr_all hc, all_ok true⟩
  · exact ⟨_, _, by decide +kernel, .inl ⟨"any", rfl⟩, cr_any hc, all_ok false⟩
  · exact ⟨_, _, by decide +kernel, .inl ⟨"sum", rfl⟩, cr_sum hc, sum_ok⟩
  · exact ⟨_, _, by decide +kernel, .inr ⟨"tuple", rfl⟩, call_tuple_of, tup_ok⟩
  · exact ⟨_, _, by decide +kernel, .inr ⟨"list", rfl⟩, call_listAll hc, list_ok⟩
  · exact ⟨_, _, by decide +kernel, .inl ⟨"sorted", rfl⟩, call_sortAll hc, sort_ok⟩
theorem bi_mem (b : Bi) : b.name ∈ bnames := by cases b <;> decide
theorem bi_names (b : Bi) : b.name ≠ "__name__" ∧ (b.name == ("__debug__" : Str)) = false := by cases b <;> decide
theorem snd_bi {b : Bi} {p : Pos} (hc : X.calm = true) (hm : X.mg b.name = none) (hg : Gl X b.name) (hp : (e :: es).all plainE = true) (ha : PA X (e :: es) (GA X W g)) : PE X (.Call (.Name b.name p) (e :: es) [] pos) (GE X W (fun ρ => g ρ >>= fun as => optR (b.g as))) := by
  obtain ⟨f, r, hv, hf, hr, ho⟩ := bi_ok hc b
  rw [List.all_cons, Bool.and_eq_true] at hp
  rcases hf with ⟨id, hf⟩ | ⟨T, hf⟩
  · subst hf
    exact PE.imp (pe_callB hr hg hm hv ha (bi_names b).1 (bi_names b).2 (plainE_star hp.1 _ _) (stars_any hp.2)) (snd_fn ho)
  · subst hf
    exact PE.imp (pe_callTy hr hg hm hv ha (bi_names b).1 (bi_names b).2 (plainE_star hp.1 _ _) (stars_any hp.2)) (snd_fn ho)
theorem ty_name (t : Ty) : bootBuiltins (Str.ofString t.name) = some (.type t.name) ∧ (Str.ofString t.name) ≠ "__name__" ∧ ((Str.ofString t.name) == ("__debug__" : Str)) = false ∧ (Str.ofString t.name) ∈ bnames := by cases t <;> decide +kernel
theorem snd_isi {t : Ty} {p p2 : Pos} (hm : ∀ x ∈ bnames, X.mg x = none) (hg : Gl X "isinstance") (hg2 : Gl X (Str.ofString t.name)) (hp : plainE a = true) (ha : PE X a (GE X W fa)) :
    PE X (.Call (.Name "isinstance" p) [a, .Name (Str.ofString t.name) p2] [] pos) (GE X W (fun ρ => fa ρ >>= fun x => optR (isiG t x))) := by
  obtain ⟨t1, t2, t3, t4⟩ := ty_name t
  have pt : PE X (.Name (Str.ofString t.name) p2) (tC (.ty t.name)) := pe_bltn hg2 (hm _ t4) t1 rfl t2 t3
  have pa : PA X [a, .Name (Str.ofString t.name) p2] (tCons (GE X W fa) (tCons (tC (.ty t.name)) tNil)) := pa_cons ha (pa_one rfl pt) (plainE_star hp _ _)
  refine PE.imp (pe_callB call_isi hg (hm _ (by decide)) (by decide +kernel) pa (by decide) (by decide) (plainE_star hp _ _) (stars_any (by rfl))) fun σ H Q ⟨ρ, Z, FP, e, o⟩ => ?_
  refine GE.bind' e o fun x v H1 Z1 _ x1 r1 e1 o1 => ?_
  obtain ⟨c2, hc, o4⟩ := out_opt (Out.step o1 x1)
  exact isi_ok t FP H H1 Z1 Q x c2 v r1 hc fun w H4 Z4 x4 r4 => out_ok o4 x4 _ r4
end
end Pi

set_option Elab.async false
set_option linter.all false
set_option maxRecDepth 100000
set_option maxHeartbeats 4000000
/-! Pi12: methods, dicts of the module, list(range(..)), displays of dicts. -/
namespace Pi
open PySem PySem.Spec PyProof.Rows L2
section
variable {X : Cx} {W : WX} {a b c e : Expr} {es : List Expr} {pos : Pos} {fa fb fc f : Rho → Res (Mo × D)} {g : Rho → Res (List (Mo × D))}
theorem mt_snd (hu : X.A.units + 65 < cLine) (m : Mt) {o : Expr} {apos cpos : Pos} (ho : PE X o (GE X W fa)) (ha : PE X e (GE X W fb)) (hp : plainE e = true) (hr : recvE o = true) (hl : (apos.endLine == cpos.line) = true) :
    PE X (.Call (.Attribute o m.name apos) [e] [] cpos) (GE X W (fun ρ => fa ρ >>= fun x => if m.rcv x.2 = true then fb ρ >>= fun y => op2 m.g x y else .st)) := by
  cases m with
  | split =>
    refine snd_m1 (rc := Mt.split.rcv) ty_tyV F.plainAttrs_str F.slot_str_split F.type_str_split mt_split split_ok (fun H1 Z1 H FP x v r h => ?_) ho ha hp hr hl
    obtain ⟨m, d⟩ := x
    cases d <;> first | (cases h; done) | skip
    rw [res_str r]
    exact (rfl : "str" = "str")
  | join =>
    refine snd_m1 (rc := Mt.join.rcv) ty_tyV F.plainAttrs_str F.slot_str_join F.type_str_join mt_join join_ok (fun H1 Z1 H FP x v r h => ?_) ho ha hp hr hl
    obtain ⟨m, d⟩ := x
    cases d <;> first | (cases h; done) | skip
    rw [res_str r]
    exact (rfl : "str" = "str")
  | get =>
    refine snd_m1 (rc := Mt.get.rcv) ty_dic F.plainAttrs_dict F.slot_dict_get F.type_dict_get (mt_getD (by omega)) get_ok (fun H1 Z1 H FP x v r h => ?_) ho ha hp hr hl
    obtain ⟨m, d⟩ := x
    replace r := r.read
    cases d <;> first | (cases h; done) | skip
    rename_i k ks vs
    rcases k with _ | _ | _ | k
    · obtain ⟨a, kvs, e, q, _⟩ := dic_read r
      exact ⟨a, e, .inl (.inl ⟨kvs, q⟩)⟩
    · cases h
    · simp only [Rep, DcAt] at r
      obtain ⟨a, xs, e, ⟨kvs, q, _⟩, _⟩ := r
      exact ⟨a, e, .inr ⟨kvs, q⟩⟩
    · cases h
  | index =>
    refine snd_m1 (rc := Mt.index.rcv) ty_tyV F.plainAttrs_list F.slot_list_index F.type_list_index (mt_indexD hu) index_ok (fun H1 Z1 H FP x v r h => ?_) ho ha hp hr hl
    obtain ⟨m, d⟩ := x
    have r := r.read
    cases d <;> first | (cases h; done) | skip
    obtain ⟨a, xs, e, q, _⟩ := lst_read r
    rw [e]
    exact .inl ⟨rfl, xs, .inl (.inl q)⟩

/-! ### dicts of the module -/
theorem glob_ref {x : Str} {ad : Addr} {p : Pos} (hg : Gl X x) (hm : X.mg x = some (.ref ad)) (hd : (x == ("__debug__" : Str)) = false) : PE X (.Name x p) (tC (.ref ad)) := pe_glob hg hm rfl hd
theorem md_has {T : Tab} (hT : TabOk T X) {gi : Nat} {y : Str} (h : T.md[gi]?.map (·.1) = some y) : ∃ kvs ad es n, T.md[gi]? = some (y, kvs) ∧ X.mg y = some (.ref ad) ∧ KDict X.K X.w ad es n ∧ ∀ s, match slook kvs s with
    | some d => ∃ v u, PySem.W.nsIn X.K ad (mkS s) = some (some u) ∧ RelV v u ∧ ∀ H Z, Rep X.fr H Z d v
    | none => PySem.W.nsIn X.K ad (mkS s) = some none := by
  rw [Option.map_eq_some_iff] at h
  obtain ⟨⟨x, kvs⟩, h1, h2⟩ := h
  cases h2
  obtain ⟨ad, es, n, h3, h4, h5⟩ := hT.md gi _ kvs h1
  exact ⟨kvs, ad, es, n, h1, h3, h4, h5⟩
theorem op_kd {ad : Addr} {es : Array DictEntry} {n : Nat} (D : KDict X.K X.w ad es n) (neg : Bool) : OpR X (compareOp (inop neg)) (fun x y H Q => ∃ (z : Str) (r : Option Value), x = .str z ∧ y = .ref ad ∧ PySem.W.nsIn X.K ad z = some r ∧ Q (.bl (if neg then !r.isSome else r.isSome)) H) := by
  cases neg with
  | false => exact op_in_kd D
  | true => exact op_notIn_kd D
def fMdin (T : Tab) (neg : Bool) (gi : Nat) (fa : Rho → Res (Mo × D)) : Rho → Res (Mo × D) := fun ρ => fa ρ >>= fun x => match T.md[gi]?, x.2 with
    | some p, .str s => .ok (.fz, .bl (if neg then !(slook p.2 s).isSome else (slook p.2 s).isSome))
    | _, _ => .st
theorem mdin_use {T : Tab} (hT : TabOk T X) {neg : Bool} {gi : Nat} {y : Str} (h : T.md[gi]?.map (·.1) = some y) : ∃ ad r, X.mg y = some (.ref ad) ∧ OpR X (compareOp (inop neg)) r ∧ ∀ (σ : Pi.St) (H : Hp) (Q : VK), GE X W (fMdin T neg gi fa) σ H Q → tOp r (GE X W fa) (tC (.ref ad)) σ H Q := by
  obtain ⟨kvs, ad, es, n, h1, h2, h3, h4⟩ := md_has hT h
  refine ⟨ad, _, h2, op_kd h3 neg, fun σ H Q ⟨ρ, Z, FP, e, o⟩ => ?_⟩
  refine GE.bind' e o fun x v H1 Z1 e00 x1 r1 e1 o1 => ?_
  obtain ⟨m, d⟩ := x
  rw [h1] at o1
  cases d <;> first | exact o1.elim | skip
  rename_i s
  have h5 := h4 s
  have o2 := out_ok o1 x1
  refine ⟨mkS s, (match slook kvs s with | some _ => PySem.W.nsIn X.K ad (mkS s) | none => some none).getD none, res_str r1, rfl, ?_, ?_⟩
  · split at h5
    · obtain ⟨v, u, h6, _⟩ := h5; rw [h6]; rfl
    · rw [h5]; rfl
  · have e6 : ((match slook kvs s with | some _ => PySem.W.nsIn X.K ad (mkS s) | none => some none).getD none).isSome = (slook kvs s).isSome := by
      split at h5
      · rename_i hd
        obtain ⟨v, u, h6, _⟩ := h5
        rw [hd, h6]; rfl
      · rename_i hd
        rw [hd]; rfl
    rw [e6]
    exact o2 _ fz_bl
theorem nob {neg : Bool} {y : Str} {p : Pos} : behindInMarks (inop neg) (.Name y p) = false := by cases neg <;> rfl
theorem snd_mdin {T : Tab} (hT : TabOk T X) {neg : Bool} {gi : Nat} {y : Str} {p : Pos} (h : T.md[gi]?.map (·.1) = some y) (hg : Gl X y) (hd : (y == ("__debug__" : Str)) = false) (ha : PE X a (GE X W fa)) :
    PE X (.Compare a [inop neg] [.Name y p] pos) (GE X W (fMdin T neg gi fa)) := by
  obtain ⟨ad, r, h1, h2, h3⟩ := mdin_use (W := W) (fa := fa) (neg := neg) hT h
  exact PE.imp (pe_cmpR h2 ha (glob_ref hg h1 hd) nob) h3
theorem snd_mdinT {T : Tab} (hT : TabOk T X) {neg : Bool} {gi : Nat} {y : Str} {p : Pos} (h : T.md[gi]?.map (·.1) = some y) (hg : Gl X y) (hd : (y == ("__debug__" : Str)) = false) (ha : PE X a (GE X W fa)) :
    PT X (.Compare a [inop neg] [.Name y p] pos) (GT X W (fT (fMdin T neg gi fa))) := by
  obtain ⟨ad, r, h1, h2, h3⟩ := mdin_use (W := W) (fa := fa) (neg := neg) hT h
  refine PT.imp (pt_cmpR h2 ha (glob_ref hg h1 hd) nob) fun σ H Q ⟨ρ, Z, FP, e, o⟩ => h3 σ H _ ?_
  refine GE.bind' e o fun x v H1 Z1 e00 x1 r1 _ o1 => ?_
  obtain ⟨m, b, e1, o2⟩ := out_tB o1
  subst e1
  exact ⟨b, res_bl r1, out_ok o2 x1⟩
theorem snd_mdix {T : Tab} (hT : TabOk T X) {gi : Nat} {y : Str} {p : Pos} (h : T.md[gi]?.map (·.1) = some y) (hg : Gl X y) (hd : (y == ("__debug__" : Str)) = false) (hp : plainE a = true) (ha : PE X a (GE X W fa)) :
    PE X (.Subscript (.Name y p) a pos) (GE X W (fun ρ => fa ρ >>= fun x => match T.md[gi]?, x.2 with
      | some p, .str s => optR ((slook p.2 s).map fun d => (.fz, d))
      | _, _ => .st)) := by
  obtain ⟨kvs, ad, es, n, h1, h2, h3, h4⟩ := md_has hT h
  refine PE.imp (pe_ix ix_kdict (glob_ref hg h2 hd) ha (plainE_ix hp)) fun σ H Q ⟨ρ, Z, FP, e, o⟩ => ?_
  show GE X W fa σ H _
  refine GE.bind' e o fun x v H1 Z1 e00 x1 r1 e1 o1 => ?_
  obtain ⟨m, d⟩ := x
  rw [h1] at o1
  cases d <;> first | exact o1.elim | skip
  rename_i s
  have h5 := h4 s
  obtain ⟨c2, hc, o4⟩ := out_opt (Out.step o1 x1)
  rw [Option.map_eq_some_iff] at hc
  obtain ⟨d, h6, h7⟩ := hc
  subst h7
  simp only [h6] at h5
  obtain ⟨v2, u, h8, h9, h10⟩ := h5
  exact ⟨ad, mkS s, v2, rfl, res_str r1, ⟨es, n, u, h3.at_, h3.lit, h8, h9⟩, out_ok o4 .refl v2 (h10 _ _)⟩

/-! ### list(range(..)) -/
theorem rg_rep {K : Fr} {H : Hp} {Z : Addr → Prop} (a b : Int) : RepL K H Z (rgD a 1 (b - a).toNat) (rgV a b) := by
  have e1 : rgD a 1 (b - a).toNat = ((List.range (b - a).toNat).map fun (i : Nat) => a + (i : Int)).map D.int := by
    unfold rgD
    rw [List.map_map]
    exact List.map_congr_left fun i _ => by simp
  have e2 : rgV a b = ((List.range (b - a).toNat).map fun (i : Nat) => a + (i : Int)).map V.int := by
    unfold rgV
    rw [List.map_map]
    rfl
  rw [e1, e2]
  exact RepL.of_ints _
theorem lmo_rg (a c : Int) (n : Nat) : lmo (rgD a c n) = .ow := if_pos (all_map_atom (fun _ => rfl) _)
theorem okI_bd {i : Int} (h : okI i = true) : -(2 ^ 62) ≤ i ∧ i < 2 ^ 62 := by
  unfold okI at h
  rw [Bool.and_eq_true, decide_eq_true_eq, decide_eq_true_eq] at h
  exact h
theorem snd_lrng1 {p p2 pos2 : Pos} (hc : X.calm = true) (hm : ∀ x ∈ bnames, X.mg x = none) (hg : Gl X "list") (hg2 : Gl X "range") (hp : plainE b = true) (hb : PE X b (GE X W fb)) :
    PE X (.Call (.Name "list" p) [.Call (.Name "range" p2) [b] [] pos2] [] pos) (GE X W (fun ρ => (.ok none : Res (Option (Mo × D))) >>= fun x => fb ρ >>= fun y => optR (lrG x y))) := by
  refine PE.imp (pe_listRg hc hg (hm _ (by decide)) (prg_1 hg2 (hm _ (by decide)) hb (plainE_star hp [] _))) fun σ H Q ⟨ρ, Z, FP, e, o⟩ => ?_
  have o : Out X W H Z σ (QE X H FP Q) (fb ρ >>= fun y => optR (lrG none y)) := o
  refine GE.bind' e o fun y v H1 Z1 e00 x1 r1 e1 o1 => ?_
  obtain ⟨m, d⟩ := y
  obtain ⟨c2, hc2, o4⟩ := out_opt (Out.step o1 x1)
  unfold lrG at hc2
  cases d <;> first | (cases hc2; done) | skip
  rename_i j
  simp only at hc2
  split at hc2 <;> cases hc2
  rename_i hk
  have hk1 := okI_bd hk.1
  refine ⟨j, res_int r1, ⟨by decide, by decide, hk1.1, hk1.2, by rw [Int.sub_zero]; exact hk.2⟩, fun q hq => ?_⟩
  obtain ⟨Z', x3, x4⟩ := new_lst (FP := FP) e1.zd x1.same hq (rg_rep (K := X.fr) (H := H1) (Z := Z1) 0 j)
  rw [lmo_rg, Int.sub_zero] at x4
  exact out_ok o4 x3 _ x4
theorem snd_lrng2 {p p2 pos2 : Pos} (hc : X.calm = true) (hm : ∀ x ∈ bnames, X.mg x = none) (hg : Gl X "list") (hg2 : Gl X "range") (hpa : plainE a = true) (hp : plainE b = true) (ha : PE X a (GE X W fa)) (hb : PE X b (GE X W fb)) :
    PE X (.Call (.Name "list" p) [.Call (.Name "range" p2) [a, b] [] pos2] [] pos) (GE X W (fun ρ => (fa ρ >>= fun x => .ok (some x)) >>= fun x => fb ρ >>= fun y => optR (lrG x y))) := by
  refine PE.imp (pe_listRg hc hg (hm _ (by decide)) (prg_2 hg2 (hm _ (by decide)) ha hb (plainE_star hpa [b] _) (plainE_star hp [] _) (stars_any (by rw [List.all_cons, hp]; rfl)))) fun σ H Q ⟨ρ, Z, FP, e, o⟩ => ?_
  have o : Out X W H Z σ (QE X H FP Q) ((fa ρ >>= fun x => .ok (some x)) >>= fun x => fb ρ >>= fun y => optR (lrG x y)) := o
  rw [res_assoc] at o
  refine GE.bind' e o fun x v0 H0 Z0 e000 x0 r0 e0 o00 => ?_
  have o0 := Out.step (show Out X W H Z σ (QE X H FP Q) (fb ρ >>= fun y => optR (lrG (some x) y)) from o00) x0
  refine GE.bind' e0 o0 fun y v H1 Z1 e00 x1 r1 e1 o1 => ?_
  obtain ⟨m, d⟩ := y
  obtain ⟨m0, d0⟩ := x
  obtain ⟨c2, hc2, o4⟩ := out_opt (Out.step o1 x1)
  unfold lrG at hc2
  cases d0 <;> cases d <;> first | (cases hc2; done) | skip
  rename_i i j
  simp only at hc2
  split at hc2 <;> cases hc2
  rename_i hk
  have hk1 := okI_bd hk.1
  have hk2 := okI_bd hk.2.1
  refine ⟨i, j, res_int r0, res_int r1, ⟨hk1.1, hk1.2, hk2.1, hk2.2, hk.2.2⟩, fun q hq => ?_⟩
  obtain ⟨Z', x3, x4⟩ := new_lst (FP := FP) e1.zd (x0.same.trans x1.same) hq (rg_rep (K := X.fr) (H := H1) (Z := Z1) i j)
  rw [lmo_rg] at x4
  exact out_ok o4 x3 _ x4
end
end Pi

set_option Elab.async false
set_option linter.all false
set_option maxRecDepth 100000
set_option maxHeartbeats 4000000
/-! Pi13: walks. -/
namespace Pi
open PySem PySem.Spec PyProof.Rows L2

/-- J gives l, while what is frozen at Z' stands as in H' -/
def WalkD (K : Fr) (J : L2.It) (l : List D) (H' : Hp) (Z' : Addr → Prop) : Prop :=
  Walk J l.length (fun H => Kp K Z' H' H) (fun i H x H2 => ∃ d, l[i]? = some d ∧ Rep K H2 Z' d x ∧ (H2 = H ∨ ∃ T o, H T = none ∧ H2 = upd H T (.tup o)))
def GI (X : Cx) (W : WX) (f : Rho → Res (List D)) : TI := fun σ H R => ∃ ρ Z FP, EnvOk X.fr H Z ρ σ FP ∧ Out X W H Z σ (fun (l : List D) H' Z' => ∀ J, WalkD X.fr J l H' Z' → R J H') (f ρ)
theorem rep_at {K : Fr} {H : Hp} {Z : Addr → Prop} {ds : List D} {xs : List V} {i : Nat} {x : V} (h : RepL K H Z ds xs) (e : xs[i]? = some x) : ∃ d, ds[i]? = some d ∧ Rep K H Z d x := by
  have hi : i < ds.length := by
    have := (List.getElem?_eq_some_iff.mp e).1
    rw [h.length] at this
    exact this
  obtain ⟨v, h1, h2⟩ := h.get (List.getElem?_eq_getElem hi)
  rw [e] at h1
  cases h1
  exact ⟨_, List.getElem?_eq_getElem hi, h2⟩
section
variable {K : Fr} {H' : Hp} {Z' : Addr → Prop} {l : List D} {xs : List V} {a : Addr}
theorem walkD_list (e : H' a = some (.lst xs)) (z : Z' a) (r : RepL K H' Z' l xs) : WalkD K (Itl K.K a) l H' Z' := by
  rw [WalkD, ← r.length]
  exact (walk_list (K := K.K) (a := a) (xs := xs)).mono (fun H k => .inl (.inl (k.lst _ _ z e))) fun i H x H2 _ k ⟨e2, hx⟩ => by
    subst e2
    obtain ⟨d, h1, h2⟩ := rep_at (RepL.kp k (fun _ h => h) _ _ r) hx
    exact ⟨d, h1, h2, .inl rfl⟩
theorem walkD_tup (e : SqT K.K H' a xs) (r : RepL K H' Z' l xs) : WalkD K (Itt K.K a) l H' Z' := by
  rw [WalkD, ← r.length]
  exact (walk_tup (K := K.K) (a := a) (xs := xs)).mono (fun H k => k.sqT e) fun i H x H2 _ k ⟨e2, hx⟩ => by
    subst e2
    obtain ⟨d, h1, h2⟩ := rep_at (RepL.kp k (fun _ h => h) _ _ r) hx
    exact ⟨d, h1, h2, .inl rfl⟩
theorem walkD_str (s : List Nat) : WalkD K (Its (mkS s)) (s.map fun c => .str [c]) H' Z' := by
  have e : (s.map fun c => D.str [c]).length = (mkS s).cps.size := by simp [mkS]
  rw [WalkD, e]
  exact (walk_str (z := mkS s)).mono (fun H k => trivial) fun i H x H2 _ k ⟨e2, c, hc, hx⟩ => by
    subst e2 hx
    refine ⟨.str [c], ?_, by simp only [Rep]; rfl, .inl rfl⟩
    have : s[i]? = some c := by simpa [mkS] using hc
    rw [List.getElem?_map, this]
    rfl
theorem walkD_keys {kvs : List (Key × V)} {o : Obj} (e : H' a = some (.frz o (.dK kvs))) (z : Z' a) : WalkD K (Itk a o kvs) (kvs.map fun p => keyD p.1) H' Z' := by
  rw [WalkD, List.length_map]
  exact (walk_keys (d := a) (o := o) (kvs := kvs)).mono (fun H k => k.frz _ _ _ z e) fun i H x H2 _ k ⟨e2, k1, v, hk, hx⟩ => by
    subst e2 hx
    refine ⟨keyD k1, ?_, rep_key k1, .inl rfl⟩
    rw [List.getElem?_map, hk]
    rfl
theorem walkD_range (lo : Int) (n : Nat) : WalkD K (Itr lo n) (rgD lo 1 n) H' Z' := by
  have e : (rgD lo 1 n).length = n := by simp [rgD]
  rw [WalkD, e]
  exact (walk_range (lo := lo) (n := n)).mono (fun H k => trivial) fun i H x H2 hi k ⟨e2, hx⟩ => by
    subst e2 hx
    refine ⟨.int (lo + i), ?_, by simp only [Rep], .inl rfl⟩
    unfold rgD
    rw [List.getElem?_map, List.getElem?_range hi]
    simp
theorem walkD_rangeC (lo c : Int) (n : Nat) : WalkD K (Itc lo c n) (rgD lo c n) H' Z' := by
  have e : (rgD lo c n).length = n := by simp [rgD]
  rw [WalkD, e]
  exact (walk_rangeC (lo := lo) (c := c) (n := n)).mono (fun H k => trivial) fun i H x H2 hi k ⟨e2, hx⟩ => by
    subst e2 hx
    refine ⟨.int (lo + (i : Nat) * c), ?_, by simp only [Rep], .inl rfl⟩
    unfold rgD
    rw [List.getElem?_map, List.getElem?_range hi]
    rfl
theorem enumL_get : ∀ (l : List D) (i0 : Int) (i : Nat), (enumL i0 l)[i]? = l[i]?.map fun d => .tup [.int (i0 + i), d]
  | [], _, i => by simp [enumL]
  | d :: r, i0, 0 => by simp [enumL]
  | d :: r, i0, i + 1 => by
    have := enumL_get r (i0 + 1) i
    simp only [enumL, List.getElem?_cons_succ, this]
    rw [show (i0 + 1 + (i : Int)) = i0 + ((i + 1 : Nat) : Int) by omega]
theorem enumL_len : ∀ (l : List D) (i0 : Int), (enumL i0 l).length = l.length
  | [], _ => rfl
  | d :: r, i0 => by simp [enumL, enumL_len r]
end
section
variable {X : Cx} {W : WX} {a b c e tg : Expr} {pos : Pos} {fa fb fc f : Rho → Res (Mo × D)} {g : Rho → Res (List (Mo × D))}
/-- a dict is locked behind its making -/
theorem pe_frz {t : TE} (h : PE X e t) : PE X e (fun σ H Q => t σ H fun v H1 => ∃ d u, v = .ref d ∧ H1 d = some u ∧ Mut (some u) ∧ ∀ od, Q v (upd H1 d (.frz od u))) := by
  refine ⟨fun pins s σ H Q I hw => ?_⟩
  refine thn (h.run pins s σ H _ I hw) fun v s1 ⟨x, H1, I1, r, d, u, ex, hd, mu, q⟩ => ?_
  obtain ⟨od, I2⟩ := I1.lock hd mu
  exact ⟨x, _, I2, r, q od⟩
theorem snd_of (he : PE X e (GE X W f)) : PI X tg e (GI X W (fun ρ => f ρ >>= fun x => itemsG x)) := by
  refine ⟨fun pins s σ H R I ⟨ρ, Z, FP, en, o⟩ => ?_⟩
  replace o : Out X W H Z σ (fun (l : List D) H' Z' => ∀ J, WalkD X.fr J l H' Z' → R J H') (f ρ >>= fun x => itemsG x) := o
  cases hf : f ρ with
  | st => rw [hf] at o; exact o.elim
  | er c p =>
    rw [hf] at o
    exact (pi_list he).run pins s σ H R I ⟨ρ, Z, FP, en, by rw [hf]; exact o⟩
  | ok x =>
    obtain ⟨m, d⟩ := x
    rw [hf] at o
    replace o : Out X W H Z σ (fun (l : List D) H' Z' => ∀ J, WalkD X.fr J l H' Z' → R J H') (itemsG (m, d)) := o
    have go : ∀ {Q : VK}, (∀ v H1 Z1, Ext H Z H1 Z1 → ResOk X.fr H H1 Z1 FP m d v → EnvOk X.fr H1 Z1 ρ σ FP → Q v H1) → GE X W f σ H Q := fun {Q} h => ⟨ρ, Z, FP, en, by rw [hf]; exact fun H1 Z1 x1 v r1 => h v H1 Z1 x1 r1 (x1.env en)⟩
    cases d with
    | lst ds =>
      refine (pi_list he).run pins s σ H R I (go fun v H1 Z1 x1 r1 e1 => ?_)
      by_cases hm : m = .fz ∨ (m = .ow ∧ ds.all D.atom = true)
      · replace o : Out X W H Z σ (fun (l : List D) H' Z' => ∀ J, WalkD X.fr J l H' Z' → R J H') (.ok ds) := by
          have e0 : itemsG (m, .lst ds) = .ok ds := if_pos hm
          rw [e0] at o; exact o
        cases m with
        | fz =>
          have r1 : Rep X.fr H1 Z1 (.lst ds) v := r1
          simp only [Rep] at r1
          obtain ⟨ad, xs, ev, q, z, r⟩ := r1
          exact ⟨ad, ev, ⟨xs, .inl (.inl q)⟩, out_ok o x1 _ (walkD_list q z r)⟩
        | ow =>
          obtain ⟨G, h1, h2⟩ := r1
          simp only [Own] at h1
          obtain ⟨ad, xs, G', ev, eG, q, nz, na, r⟩ := h1
          have hat : ds.all D.atom = true := by
            rcases hm with hm | hm
            · cases hm
            · exact hm.2
          obtain ⟨eg, rr⟩ := atoms_ownL hat r
          subst eg eG
          have x2 := Ext.freeze (G := [ad]) x1 h2 (fun a ha => by have : a = ad := by simpa using ha
                                                                  rw [this, q]; simp)
          exact ⟨ad, ev, ⟨xs, .inl (.inl q)⟩, out_ok o x2 _ (walkD_list q (.inr (by simp)) (RepL.kp .refl (fun _ h => .inl h) _ _ rr))⟩
        | bo =>
          rcases hm with hm | hm
          · cases hm
          · cases hm.1
      · have e0 : itemsG (m, .lst ds) = .st := if_neg hm
        rw [e0] at o; exact o.elim
    | tup ds =>
      refine (pi_tup he).run pins s σ H R I (go fun v H1 Z1 x1 r1 e1 => ?_)
      obtain ⟨ad, xs, ev, q, r⟩ := tup_rep (r1.atom rfl)
      exact ⟨ad, ev, ⟨xs, q⟩, out_ok o x1 _ (walkD_tup q r)⟩
    | str t =>
      refine (pi_str he).run pins s σ H R I (go fun v H1 Z1 x1 r1 e1 => ?_)
      exact ⟨mkS t, res_str r1, out_ok o x1 _ (walkD_str t)⟩
    | dic k ks vs =>
      rcases k with _ | k
      · by_cases hm : m = .ow
        · replace o : Out X W H Z σ (fun (l : List D) H' Z' => ∀ J, WalkD X.fr J l H' Z' → R J H') (.ok ks) := by
            have e0 : itemsG (m, .dic 0 ks vs) = .ok ks := if_pos hm
            rw [e0] at o; exact o
          subst hm
          refine (pi_keys (pe_frz he)).run pins s σ H R I (go fun v H1 Z1 x1 r1 e1 => ?_)
          obtain ⟨G, h1, h2⟩ := r1
          simp only [Own, DcOwn] at h1
          obtain ⟨ad, xs, G', ev, eG, ⟨kvs, q, ek, ex⟩, nz, na, r⟩ := h1
          refine ⟨ad, _, ev, q, trivial, fun od => ⟨ad, od, ev, .inl ⟨kvs, upd_same, ?_⟩⟩⟩
          have hn : H ad = none := h2 ad (by rw [eG]; exact List.mem_cons_self)
          have x2 : Ext H Z (upd H1 ad (.frz od (.dK kvs))) (fun a => Z1 a ∨ a = ad) := by
            refine ⟨fun b u hb => ?_, fun a h => .inl (x1.z a h), fun a h => ?_⟩
            · rw [upd_ne (ne_of_none hb hn)]
              exact x1.same b u hb
            · rcases h with h | h
              · refine (x1.zn a h).imp id fun w => ⟨w.1, fun z => w.2 ?_⟩
                by_cases ea : a = ad
                · subst ea; rw [upd_same] at z; cases z
                · rw [upd_ne ea] at z; exact z
              · rw [h, upd_same]
                exact .inr ⟨hn, by simp⟩
          subst ek
          exact out_ok o x2 _ (walkD_keys upd_same (.inr rfl))
        · have e0 : itemsG (m, .dic 0 ks vs) = .st := if_neg hm
          rw [e0] at o; exact o.elim
      · exact o.elim
    | non => exact o.elim
    | bl b => exact o.elim
    | int i => exact o.elim
    | scr ns => exact o.elim

/-! ### ranges -/
theorem pa_rg1 (hp : plainE b = true) (hb : PE X b (GE X W fb)) : PA X [b] (GA X W (fCons fb fun _ => .ok [])) := snd_acons hp hb snd_anil
theorem snd_rng {es : List Expr} {p pos : Pos} (hm : X.mg "range" = none) (hg : Gl X "range") (h3 : es.length ≤ 3) (hp : es.all plainE = true) (hlen : ∀ ρ as, g ρ = .ok as → as.length = es.length) (hnil : es = [] → ∀ ρ, g ρ = .ok []) (ha : PA X es (GA X W g)) :
    PI X tg (.Call (.Name "range" p) es [] pos) (GI X W (fun ρ => g ρ >>= fun as => rngG as)) := by
  have use : ∀ (σ : Pi.St) (H : Hp) (R : L2.It → Hp → Prop), GI X W (fun ρ => g ρ >>= fun as => rngG as) σ H R → ∀ {Q : List V → Hp → Prop}, (∀ (ρ : Rho) (as : List (Mo × D)) (G : List Addr) (vs : List V) (H0 : Hp) (Z0 : Addr → Prop) (H1 : Hp) (Z1 : Addr → Prop) (FP : Nat → List Addr), g ρ = .ok as → ResL X.fr H0 H1 Z1 FP as G vs →
      Out X W H1 Z1 σ (fun (l : List D) H' Z' => ∀ J, WalkD X.fr J l H' Z' → R J H') (rngG as) → Q vs H1) → GA X W g σ H Q := fun σ H R ⟨ρ, Z, FP, en, o⟩ {Q} h =>
    GA.bind' en o fun as G vs H1 Z1 e0 x1 r1 e1 o1 => h ρ as G vs H Z H1 Z1 FP e0 r1 (Out.step o1 x1)
  match es, h3, hlen, hp, hnil, ha, use with
  | [], h3, hlen, hp, hnil, ha, use =>
    exact ⟨fun pins s σ H R I ⟨ρ, Z, FP, en, o⟩ => by
      have : Out X W H Z σ (fun (l : List D) H' Z' => ∀ J, WalkD X.fr J l H' Z' → R J H') (g ρ >>= fun as => rngG as) := o
      rw [hnil rfl ρ] at this
      exact this.elim⟩
  | [x], h3, hlen, hp, hnil, ha, use =>
    refine PI.imp (pi_range1 hg hm ha (by rw [plainE_star (by simpa using hp)]; rfl)) fun σ H R q => use σ H R q fun ρ as G vs H0 Z0 H1 Z1 FP e0 r1 o1 => ?_
    have hl := hlen ρ as e0
    match as, hl, r1, o1 with
    | [(m, d)], hl2, r1, o1 =>
      obtain ⟨v, ev, r2⟩ := r1.one
      cases d <;> first | exact o1.elim | skip
      rename_i j
      have hv := res_int r2
      subst ev hv
      by_cases hk : okI j = true
      · have e0 : rngG [(m, .int j)] = .ok (rgD 0 1 j.toNat) := if_pos hk
        rw [e0] at o1
        have hk := okI_bd hk
        exact ⟨j, rfl, hk.1, hk.2, out_ok o1 .refl _ (walkD_range 0 _)⟩
      · have e0 : rngG [(m, .int j)] = .st := if_neg hk
        rw [e0] at o1; exact o1.elim
  | [x, y], h3, hlen, hp, hnil, ha, use =>
    have hp2 : plainE x = true ∧ plainE y = true := by simpa using hp
    refine PI.imp (pi_range2 hg hm ha (by rw [plainE_star hp2.1, plainE_star hp2.2]; rfl) (by rw [plainE_star hp2.2]; rfl)) fun σ H R q => use σ H R q fun ρ as G vs H0 Z0 H1 Z1 FP e0 r1 o1 => ?_
    have hl := hlen ρ as e0
    match as, hl, r1, o1 with
    | [(m, d), (m2, d2)], hl2, r1, o1 =>
      obtain ⟨v, u, ev, r2, r3⟩ := r1.two
      cases d <;> cases d2 <;> first | exact o1.elim | skip
      rename_i i j
      have hv := res_int r2
      have hu := res_int r3
      subst ev hv hu
      by_cases hk : okI i = true ∧ okI j = true
      · have e0 : rngG [(m, .int i), (m2, .int j)] = .ok (rgD i 1 (j - i).toNat) := if_pos hk
        rw [e0] at o1
        have hk1 := okI_bd hk.1
        have hk2 := okI_bd hk.2
        exact ⟨i, j, rfl, ⟨hk1.1, hk1.2, hk2.1, hk2.2⟩, out_ok o1 .refl _ (walkD_range i _)⟩
      · have e0 : rngG [(m, .int i), (m2, .int j)] = .st := if_neg hk
        rw [e0] at o1; exact o1.elim
  | [x, y, z], h3, hlen, hp, hnil, ha, use =>
    have hp2 : plainE x = true ∧ plainE y = true ∧ plainE z = true := by simpa using hp
    refine PI.imp (pi_range3 hg hm ha (plainE_star hp2.1 _ _) (stars_any (by simp [hp2.2.1, hp2.2.2]))) fun σ H R q => use σ H R q fun ρ as G vs H0 Z0 H1 Z1 FP e0 r1 o1 => ?_
    have hl := hlen ρ as e0
    match as, hl, r1, o1 with
    | [(m, d), (m2, d2), (m3, d3)], hl2, r1, o1 =>
      obtain ⟨v, vs', G2, ev, r2, r4⟩ := r1.cons
      obtain ⟨u, t, eu, r3, r5⟩ := r4.two
      cases d <;> cases d2 <;> cases d3 <;> first | exact o1.elim | skip
      rename_i i j c
      have hv := res_int r2
      have hu := res_int r3
      have ht := res_int r5
      subst ev eu hv hu ht
      by_cases hk : c ≠ 0 ∧ c.natAbs < 1073741824 ∧ Builtin.Range.small i j c = true ∧ 0 ≤ Builtin.Range.rangeSize i j c
      · have e0 : rngG [(m, .int i), (m2, .int j), (m3, .int c)] = .ok (rgD i c (Builtin.Range.rangeSize i j c).toNat) := if_pos hk
        rw [e0] at o1
        exact ⟨i, j, c, _, rfl, ⟨hk.1, hk.2.1, hk.2.2.1, by have := hk.2.2.2; omega⟩, out_ok o1 .refl _ (walkD_rangeC i c _)⟩
      · have e0 : rngG [(m, .int i), (m2, .int j), (m3, .int c)] = .st := if_neg hk
        rw [e0] at o1; exact o1.elim
  | x :: y :: z :: t :: r, h3, hlen, hp, hnil, ha, use => exact absurd h3 (by simp)
end
end Pi

set_option Elab.async false
set_option linter.all false
set_option maxRecDepth 100000
set_option maxHeartbeats 4000000
/-! PiEnum: enumerate(a tuple). -/
namespace PiEn
open PySem PySem.Spec PyProof.Rows L2
open AutoSeq1 (wpAny_loadPart')

theorem meets_enumerate_newT (l : Addr) (items : Array Value) (n : Nat) (dct : Option Addr) (sl : Array (Option Value)) :
    Meets (Builtin.«enumerate.__new__» ⟨[.type "enumerate", .ref l], []⟩) (fun _ R s => s.heap.get? l = some { cls := .type "tuple", dict := dct, data := .seq items n, slots := sl } ∧
      R (.ok (.ret (.ref (s.heap.push { cls := .type "tuple_iterator", data := .fields #[.ref l, .int 0 0] }).objs.size)))
        { s with heap := (s.heap.push { cls := .type "tuple_iterator", data := .fields #[.ref l, .int 0 0] }).push { cls := .type "enumerate", data := .fields #[.none, .bool false, .ref s.heap.objs.size, rawInt 0, .none, .none] } }) :=
  .of_wp fun prog w A R s h => by
    obtain ⟨hp, g, d, tk, os⟩ := s; obtain ⟨hl, h⟩ := h
    have hsub := sub_enumerate
    have hL : Heap.IsTuple (Shared.heap ⟨hp, g, d, tk, os⟩) l items := ⟨_, hl, rfl, n, rfl⟩
    wp_walk using wpAny_loadPart' hl
    refine wpAny_stack_any fun st => wpAny_pure ?_
    split
    · rename_i c _ _ _ _ _
      cases (c == Value.type "enumerate")
      · wp_walk using wpAny_loadPart' hl, wpAny_pyIter_tuple hL
        exact ⟨_, rfl, h⟩
      · wp_walk using wpAny_loadPart' hl, wpAny_pyIter_tuple hL
        exact ⟨_, rfl, h⟩
    · wp_walk using wpAny_loadPart' hl, wpAny_pyIter_tuple hL
      exact ⟨_, rfl, h⟩
theorem call_enumerate_tuple {prog : Program} {w : World} {A : Around} {E : Value → Shared → Prop} {s : Shared} {l : Addr} {items : Array Value} {Q : Value → Shared → Prop} (hL : s.heap.IsTuple l items)
    (h : ∀ h', IsEnum h' (s.heap.objs.size + 1) s.heap.objs.size 0 .none → h'.IsTupleIter s.heap.objs.size l 0 → h'.objs.size = s.heap.objs.size + 2 →
      (∀ b o, s.heap.get? b = some o → h'.get? b = some o) → Q (.ref (s.heap.objs.size + 1)) { s with heap := h' }) :
    wpAny (model prog w) A (call (.type "enumerate") [.ref l]) Q E s := by
  obtain ⟨⟨c, dct, dt, sl⟩, hl, hc, n, hd⟩ := hL
  replace hc : c = .type "tuple" := hc
  replace hd : dt = .seq items n := hd
  subst hc hd
  refine callType_new F.called_enumerate (by decide) (F.typeCall_enumerate_1 _) (F.newCall_enumerate_1 _) (fun obj => F.args_object_init_2 obj _) F.entry_enumerate_new
    (meets_enumerate_newT l items n dct sl) ⟨hl, ?_⟩
  have hz : (s.heap.push { cls := .type "tuple_iterator", data := .fields #[.ref l, .int 0 0] }).objs.size = s.heap.objs.size + 1 := Heap.size_push ..
  show _ ∧ _
  rw [hz]
  have he : IsEnum ((s.heap.push { cls := .type "tuple_iterator", data := .fields #[.ref l, .int 0 0] }).push
      { cls := .type "enumerate", data := .fields #[.none, .bool false, .ref s.heap.objs.size, rawInt 0, .none, .none] }) (s.heap.objs.size + 1) s.heap.objs.size 0 .none := by
    have := Heap.get?_push_size (s.heap.push { cls := .type "tuple_iterator", data := .fields #[.ref l, .int 0 0] })
      (o := { cls := .type "enumerate", data := .fields #[.none, .bool false, .ref s.heap.objs.size, rawInt 0, .none, .none] }) rfl
    rw [hz] at this; exact this
  refine ⟨⟨_, he, rfl⟩, h _ he ⟨_, Heap.get?_push_of_some _ (Heap.get?_push_size _ rfl), rfl, rfl⟩ (by rw [Heap.size_push, hz]) fun b o x => Heap.get?_push_of_some _ (Heap.get?_push_of_some _ x)⟩
/-- the tuple at a, each item in a new pair -/
def Ita (K : PySem.W.Frag) (a : Addr) : It :=
  ⟨fun i H => ∃ (xs : List V) (x : V), SqT K H a xs ∧ xs[i]? = some x, fun i H v H' => ∃ T x, v = .ref T ∧ H T = none ∧ H' = upd H T (.tup [.int (i : Nat), x]) ∧ ∀ xs, SqT K H a xs → xs[i]? = some x, fun i H => ∃ xs : List V, SqT K H a xs ∧ xs.length = i⟩
theorem turn_enumT {P : Program} {w : World} {K : PySem.W.Frag} {elts : List Expr} {kk : Nat} {tpos : Pos} (a e it : Addr) (hai : a ≠ it) (hae : a ≠ e) :
    Turn P w K (.Tuple elts kk tpos) (Ita K a) [e, it] e (fun i h => (∃ old, IsEnum h e it ((i : Nat) : Int) old) ∧ h.IsTupleIter it a i ∧ e ≠ it) where
  mem := by simp
  obj := fun i h st b hb => by
    obtain ⟨⟨old, he⟩, ⟨o, ho, hc, hd⟩, _⟩ := st
    have e' : b = e ∨ b = it := by simpa using hb
    rcases e' with z | z
    · rw [z]; exact ⟨_, he, fun v q => nomatch q⟩
    · rw [z]; exact ⟨o, ho, fun v q => by rw [hd] at q; cases q⟩
  keep := fun i h h' st k => let ⟨⟨old, he⟩, hi, hne⟩ := st; ⟨⟨old, k e (by simp) _ he⟩, hi.at fun o q => k it (by simp) o q, hne⟩
  item := by
    intro X hP hw hK hc i pins s σ H E I hf st hg
    subst hP hw hK
    obtain ⟨⟨old, he⟩, hit, hne⟩ := st
    obtain ⟨xs, x, hq, hx⟩ := hg
    obtain ⟨its, rv, p, hz⟩ := I.tuple hq
    obtain ⟨u, hu, ru⟩ := rv.get hx
    have hel : e < s.heap.objs.size := Heap.lt_size he
    have hil : it < s.heap.objs.size := by obtain ⟨_, q, _⟩ := hit; exact Heap.lt_size q
    have hsz : its.toArray.size = its.length := List.size_toArray
    have hlt : i < its.toArray.size := by
      rw [hsz]
      exact (List.getElem?_eq_some_iff.mp hu).1
    refine wpAny_pyNext_enum_itemD (Draws.tuple (A := X.A.in1) (by first | exact I.ok.hd hc | simpa using I.ok.hd hc) it a hai its.toArray) he ⟨hit, p⟩ hlt hne (by simp [hne, Ne.symm hae]) fun y h' tk hy ho hst hT hsz' hk => ?_
    have eu : y = u := by
      have : its.toArray[i]? = some u := by simpa using hu
      rw [this] at hy
      exact (Option.some.inj hy).symm
    subst eu
    have hT0 := hT
    refine ⟨_, rfl, wpAny_letOwnedTupleGo_enum (s := { s with heap := h', toks := tk + 1 }) ho fun h'' he' sb => ?_⟩
    have hT2 : h''.get? s.heap.objs.size = some { cls := .type "tuple", data := .seq #[.int i tk, y] } := (sb.2 _ (Nat.ne_of_gt hel)).trans hT
    have new : ObjOk X.prog X.w (upd H s.heap.objs.size (.tup [.int (i : Nat), x])) h'' s.heap.objs.size (.tup [.int (i : Nat), x]) :=
      ⟨by show 2 ≤ sizeLine; decide, [.int i tk, y], .cons ⟨_, rfl⟩ (.cons ru .nil), ⟨_, hT2, rfl, _, rfl⟩⟩
    have I1 : Inv X pins σ (upd H s.heap.objs.size (.tup [.int (i : Nat), x])) { s with heap := h'', toks := tk + 1 } :=
      I.turnedNew (ch := [e, it]) (fun b ob hb q => (sb.2 b (fun z => hb (by simp [z]))).trans (hk b ob (fun z => hb (by simp [z])) (fun z => hb (by simp [z])) q)) hf (Nat.le_refl _) new
    refine ⟨.ref s.heap.objs.size, _, I1, rfl, ⟨_, x, rfl, I.hok.fresh (Nat.le_refl _), rfl, fun ys hy => by rw [I.tuple_inj hy hq]; exact hx⟩, ⟨⟨y, ?_⟩, hst.1.at fun o q => (sb.2 it (Ne.symm hne)).trans q, hne⟩, fun b hb => ?_⟩
    · have e1 : ((i + 1 : Nat) : Int) = (i : Int) + 1 := by omega
      rw [e1]; exact he'
    · have hb' : b < s.heap.objs.size := by
        have e' : b = e ∨ b = it := by simpa using hb
        rcases e' with z | z
        · rw [z]; exact hel
        · rw [z]; exact hil
      rw [upd_ne (Nat.ne_of_lt hb')]
      exact (hf b hb).1
  done := by
    intro X hP hw hK hc i pins s σ H E I hf st hg
    subst hP hw hK
    obtain ⟨⟨old, he⟩, hit, hne⟩ := st
    obtain ⟨xs, hq, hx⟩ := hg
    obtain ⟨its, rv, p, hz⟩ := I.tuple hq
    obtain ⟨f0, f1, f2, f3, f4, f5⟩ := hf it (by simp)
    have hl := rv.length
    have hsz : its.toArray.size = i := by rw [List.size_toArray]; omega
    subst hsz
    exact wpAny_pyNext_enum_endD (Draws.tuple (A := X.A.in1) (by first | exact I.ok.hd hc | simpa using I.ok.hd hc) it a hai its.toArray) he ⟨hit, p⟩ fun h' eb => ⟨rfl, I.turned (t' := s.toks) (fun b o hb q => eb b o hb q) f0 f1 f3 f4 f5⟩
  self := fun A i s Q E st h => let ⟨⟨_, he⟩, _⟩ := st; wpAny_pyIter_enum he h

def iEnumT (K : PySem.W.Frag) (ta : TA) : TI := fun σ H R => ta σ H fun vs H1 => ∃ a xs, vs = [.ref a] ∧ SqT K H1 a xs ∧ R (Ita K a) H1
theorem pi_enumT {X : Cx} {e : Expr} {ta : TA} {p pos tpos : Pos} {elts : List Expr} {kk : Nat} (hg : Gl X "enumerate") (hm : X.mg "enumerate" = none) (ha : PA X [e] ta) (hs : starEach [e] X.env = [(false, eval e X.env)]) :
    PI X (.Tuple elts kk tpos) (.Call (.Name "enumerate" p) [e] [] pos) (iEnumT X.K ta) := by
  refine ⟨fun pins s σ H R I h => ?_⟩
  refine Call_ (ld_blt I hg hm boot_enumerate (PyProof.Rows.callWith_type1 (thn (ha.run pos pins s σ H _ I h) fun us s1 ⟨vs, H1, I1, r1, q1⟩ => ?_) hs rfl))
  obtain ⟨a, xs, ex, hq, q⟩ := q1
  subst ex
  cases r1 with
  | cons r rr =>
    cases rr
    cases r
    obtain ⟨its, rv, p', hz⟩ := I1.tuple hq
    have la : a < s1.heap.objs.size := by obtain ⟨o, ho, _⟩ := p'; exact Heap.lt_size ho
    refine call_enumerate_tuple p' fun h' he hit hsz hk => wpAny_pyIter_enum he ?_
    have I2 : Inv X pins σ H1 { s1 with heap := h' } := I1.kept (t' := s1.toks) hk
    refine ⟨s1.heap.objs.size + 1, [s1.heap.objs.size + 1, s1.heap.objs.size], _, _, H1, rfl, I2, turn_enumT a (s1.heap.objs.size + 1) s1.heap.objs.size (Nat.ne_of_lt la) (Nat.ne_of_lt (Nat.lt_succ_of_lt la)), ⟨⟨.none, he⟩, hit, Nat.succ_ne_self _⟩, fun b hb => ?_, q⟩
    have e' : b = s1.heap.objs.size + 1 ∨ b = s1.heap.objs.size := by simpa using hb
    have hle : s1.heap.objs.size ≤ b := by
      rcases e' with z | z
      · rw [z]; exact Nat.le_add_right _ _
      · rw [z]; exact Nat.le_refl _
    exact I1.fpOk hle (I1.hok.fresh hle)
theorem walk_enumT {K : PySem.W.Frag} {a : Addr} {xs : List V} : Walk (Ita K a) xs.length (fun H => SqT K H a xs) (YPair (fun i => some (.int (i : Nat))) (fun i => xs[i]?)) := by
  refine ⟨fun i _ hi q => ⟨xs, xs[i], q, by simp [hi]⟩, fun _ q => ⟨xs, q, rfl⟩, fun i H v H' _ q y => ?_⟩
  obtain ⟨T, x, h1, h2, h3, h4⟩ := y
  exact ⟨T, .int (i : Nat), x, h1, h2, h3, rfl, h4 xs q⟩
end PiEn

set_option Elab.async false
set_option linter.all false
set_option maxRecDepth 100000
set_option maxHeartbeats 4000000
/-! Pi14: enumerate; comprehensions. -/
namespace Pi
open PySem PySem.Spec PyProof.Rows L2
section
variable {K : Fr} {H' : Hp} {Z' : Addr → Prop} {l : List D} {xs : List V} {a : Addr}
theorem walkD_pair {J : L2.It} {n : Nat} {G : Hp → Prop} (w : Walk J n G (YPair (fun i => some (.int (i : Nat))) (fun i => xs[i]?))) (hn : n = l.length) (g : ∀ H, Kp K Z' H' H → G H) (r : RepL K H' Z' l xs) : WalkD K J (enumL 0 l) H' Z' := by
  rw [WalkD, enumL_len, ← hn]
  refine w.mono (fun H k => g H k) fun i H x H2 _ k ⟨T, u, v, e1, e2, e3, e4, e5⟩ => ?_
  cases e4
  obtain ⟨d, h1, h2⟩ := rep_at (RepL.kp k (fun _ h => h) _ _ r) e5
  subst e1 e3
  refine ⟨.tup [.int (0 + i), d], by rw [enumL_get, h1]; rfl, ?_, .inr ⟨T, _, e2, rfl⟩⟩
  have hr : RepL K H Z' [.int (0 + (i : Nat)), d] [.int (i : Nat), v] := by
    simp only [RepL, Rep]
    exact ⟨_, _, rfl, by simp, _, _, rfl, h2, rfl⟩
  exact (new_tup e2 hr).2
end
section
variable {X : Cx} {W : WX} {a b c e tg : Expr} {pos : Pos} {fa fb fc f : Rho → Res (Mo × D)} {g : Rho → Res (List (Mo × D))}
theorem snd_enm {elts : List Expr} {kk : Nat} {tpos p : Pos} (hm : X.mg "enumerate" = none) (hg : Gl X "enumerate") (hp : plainE e = true) (he : PE X e (GE X W f)) :
    PI X (.Tuple elts kk tpos) (.Call (.Name "enumerate" p) [e] [] pos) (GI X W (fun ρ => f ρ >>= fun x => enumG x)) := by
  have hs : starEach [e] X.env = [(false, eval e X.env)] := plainE_star hp [] X.env
  have PL := pi_enum (p := p) (pos := pos) (tpos := tpos) (elts := elts) (kk := kk) hg hm (pa_one hp he) hs
  have PT := PiEn.pi_enumT (p := p) (pos := pos) (tpos := tpos) (elts := elts) (kk := kk) hg hm (pa_one hp he) hs
  refine ⟨fun pins s σ H R I ⟨ρ, Z, FP, en, o⟩ => ?_⟩
  replace o : Out X W H Z σ (fun (l : List D) H' Z' => ∀ J, WalkD X.fr J l H' Z' → R J H') (f ρ >>= fun x => enumG x) := o
  cases hf : f ρ with
  | st => rw [hf] at o; exact o.elim
  | er c p =>
    rw [hf] at o
    exact PL.run pins s σ H R I ⟨ρ, Z, FP, en, by rw [hf]; exact o⟩
  | ok x =>
    obtain ⟨m, d⟩ := x
    rw [hf] at o
    replace o : Out X W H Z σ (fun (l : List D) H' Z' => ∀ J, WalkD X.fr J l H' Z' → R J H') (enumG (m, d)) := o
    have go : ∀ {Q : VK}, (∀ v H1 Z1, Ext H Z H1 Z1 → ResOk X.fr H H1 Z1 FP m d v → EnvOk X.fr H1 Z1 ρ σ FP → Q v H1) → GE X W f σ H Q := fun {Q} h => ⟨ρ, Z, FP, en, by rw [hf]; exact fun H1 Z1 x1 v r1 => h v H1 Z1 x1 r1 (x1.env en)⟩
    cases d with
    | lst ds =>
      refine PL.run pins s σ H R I (go fun v H1 Z1 x1 r1 e1 => ?_)
      by_cases hm : m = .fz ∨ (m = .ow ∧ ds.all D.atom = true)
      · replace o : Out X W H Z σ (fun (l : List D) H' Z' => ∀ J, WalkD X.fr J l H' Z' → R J H') (.ok (enumL 0 ds)) := by
          have e0 : enumG (m, .lst ds) = .ok (enumL 0 ds) := by
            show (itemsG (m, .lst ds) >>= fun l => Res.ok (enumL 0 l)) = _
            rw [show itemsG (m, .lst ds) = .ok ds from if_pos hm]; rfl
          rw [e0] at o; exact o
        cases m with
        | fz =>
          have r1 : Rep X.fr H1 Z1 (.lst ds) v := r1
          simp only [Rep] at r1
          obtain ⟨ad, xs, ev, q, z, r⟩ := r1
          subst ev
          exact ⟨ad, xs, rfl, .inl (.inl q), out_ok o x1 _ (walkD_pair walk_enum r.length (fun H k => .inl (.inl (k.lst _ _ z q))) r)⟩
        | ow =>
          obtain ⟨G, h1, h2⟩ := r1
          simp only [Own] at h1
          obtain ⟨ad, xs, G', ev, eG, q, nz, na, r⟩ := h1
          have hat : ds.all D.atom = true := by
            rcases hm with hm | hm
            · cases hm
            · exact hm.2
          obtain ⟨eg, rr⟩ := atoms_ownL hat r
          subst eg eG ev
          have x2 := Ext.freeze (G := [ad]) x1 h2 (fun a ha => by have : a = ad := by simpa using ha
                                                                  rw [this, q]; simp)
          have r2 : RepL X.fr H1 (fun a => Z1 a ∨ a ∈ [ad]) ds xs := RepL.kp .refl (fun _ h => .inl h) _ _ rr
          exact ⟨ad, xs, rfl, .inl (.inl q), out_ok o x2 _ (walkD_pair walk_enum r2.length (fun H k => .inl (.inl (k.lst _ _ (.inr (by simp)) q))) r2)⟩
        | bo =>
          rcases hm with hm | hm
          · cases hm
          · cases hm.1
      · have e0 : enumG (m, .lst ds) = .st := by
          show (itemsG (m, .lst ds) >>= fun l => Res.ok (enumL 0 l)) = _
          rw [show itemsG (m, .lst ds) = .st from if_neg hm]; rfl
        rw [e0] at o; exact o.elim
    | tup ds =>
      refine PT.run pins s σ H R I (go fun v H1 Z1 x1 r1 e1 => ?_)
      obtain ⟨ad, xs, ev, q, r⟩ := tup_rep (r1.atom rfl)
      subst ev
      exact ⟨ad, xs, rfl, q, out_ok (show Out X W H Z σ _ (.ok (enumL 0 ds)) from o) x1 _ (walkD_pair PiEn.walk_enumT r.length (fun H k => k.sqT q) r)⟩
    | _ => exact o.elim

end

/-! ### targets -/
mutual
def gOf (K : PySem.W.Frag) : Tg → TG
  | .nm i => gName i
  | .tp ts => gTup K ts.length (gOfs K ts)
def gOfs (K : PySem.W.Frag) : List Tg → TGs
  | [] => gNil
  | t :: ts => gCons (gOf K t) (gOfs K ts)
end
mutual
def slots : Tg → List Nat
  | .nm i => [i]
  | .tp ts => slotss ts
def slotss : List Tg → List Nat
  | [] => []
  | t :: ts => slots t ++ slotss ts
end
theorem EnvOk.set {K : Fr} {H : Hp} {Z : Addr → Prop} {ρ : Rho} {σ : Pi.St} {FP : Nat → List Addr} (e : EnvOk K H Z ρ σ FP) {i : Nat} {d : D} {v : V} (hi : i < ρ.length) (r : Rep K H Z d v) : EnvOk K H Z (setR ρ i d) (σ.set i (some v)) (fun j => if j = i then [] else FP j) := by
  have hj : ∀ {j : Nat}, j ≠ i → (setR ρ i d)[j]? = ρ[j]? := fun {j} h => List.getElem?_set_ne (Ne.symm h)
  have hs : ∀ {j : Nat}, j ≠ i → (σ.set i (some v))[j]? = σ[j]? := fun {j} h => List.getElem?_set_ne (Ne.symm h)
  have hi2 : (setR ρ i d)[i]? = some (some (false, d)) := List.getElem?_set_self hi
  have hs2 : (σ.set i (some v))[i]? = some (some v) := List.getElem?_set_self (by rw [← e.len]; exact hi)
  refine ⟨by simp [setR, e.len], fun j d' h => ?_, fun j d' h => ?_, fun j a h => ?_, e.zd, fun j j' a h h' => ?_⟩
  · by_cases hji : j = i
    · subst hji
      rw [hi2] at h
      cases h
      exact ⟨v, hs2, r⟩
    · rw [hj hji] at h
      obtain ⟨w, h1, h2⟩ := e.fz j d' h
      exact ⟨w, by rw [hs hji]; exact h1, h2⟩
  · by_cases hji : j = i
    · subst hji
      rw [hi2] at h
      cases h
    · rw [hj hji] at h
      obtain ⟨w, h1, h2⟩ := e.ow j d' h
      refine ⟨w, by rw [hs hji]; exact h1, ?_⟩
      rw [if_neg hji]
      exact h2
  · by_cases hji : j = i
    · rw [if_pos hji] at h; simp at h
    · rw [if_neg hji] at h
      rw [hj hji]
      exact e.emp j a h
  · by_cases hji : j = i
    · rw [if_pos hji] at h; simp at h
    · by_cases hji' : j' = i
      · rw [if_pos hji'] at h'; simp at h'
      · rw [if_neg hji] at h
        rw [if_neg hji'] at h'
        exact e.dis j j' a h h'
mutual
theorem gOf_use {K : Fr} {H : Hp} {Z : Addr → Prop} : ∀ (t : Tg) (d : D) (v : V) (ρ ρ2 : Rho) (σ : Pi.St) (FP : Nat → List Addr) (Q : Pi.St → Hp → Prop), EnvOk K H Z ρ σ FP → Rep K H Z d v → bindT t d ρ = some ρ2 →
    (∀ σ2 FP2, EnvOk K H Z ρ2 σ2 FP2 → (∀ i, ∀ a ∈ FP2 i, a ∈ FP i) → σ2.length = σ.length → (∀ j, j ∉ slots t → σ2[j]? = σ[j]?) → Q σ2 H) → gOf K.K t v σ H Q
  | .nm i, d, v, ρ, ρ2, σ, FP, Q, e, r, h, q => by
    unfold bindT at h
    split at h <;> cases h
    rename_i hi
    unfold gOf
    refine q _ _ (e.set hi r) (fun j a ha => ?_) (by simp) fun j hj => ?_
    · by_cases hji : j = i
      · rw [if_pos hji] at ha; simp at ha
      · rw [if_neg hji] at ha; exact ha
    · exact List.getElem?_set_ne (fun z => hj (by simp [slots, z]))
  | .tp ts, d, v, ρ, ρ2, σ, FP, Q, e, r, h, q => by
    unfold bindT at h
    cases d <;> first | (cases h; done) | skip
    rename_i ds
    obtain ⟨a, xs, ev, q1, l1⟩ := tup_rep r
    subst ev
    unfold gOf
    exact ⟨a, xs, rfl, q1, by rw [l1.length]; exact (bindTs_len ts ds ρ ρ2 h).symm, gOfs_use ts ds xs ρ ρ2 σ FP Q e l1 h (by simpa [slots] using q)⟩
theorem gOfs_use {K : Fr} {H : Hp} {Z : Addr → Prop} : ∀ (ts : List Tg) (ds : List D) (vs : List V) (ρ ρ2 : Rho) (σ : Pi.St) (FP : Nat → List Addr) (Q : Pi.St → Hp → Prop), EnvOk K H Z ρ σ FP → RepL K H Z ds vs → bindTs ts ds ρ = some ρ2 →
    (∀ σ2 FP2, EnvOk K H Z ρ2 σ2 FP2 → (∀ i, ∀ a ∈ FP2 i, a ∈ FP i) → σ2.length = σ.length → (∀ j, j ∉ slotss ts → σ2[j]? = σ[j]?) → Q σ2 H) → gOfs K.K ts vs σ H Q
  | [], ds, vs, ρ, ρ2, σ, FP, Q, e, r, h, q => by
    cases ds with
    | nil =>
      unfold bindTs at h
      cases h
      simp only [RepL] at r
      unfold gOfs
      exact ⟨r, q σ FP e (fun _ _ h => h) rfl fun _ _ => rfl⟩
    | cons d ds => unfold bindTs at h; cases h
  | t :: ts, ds, vs, ρ, ρ2, σ, FP, Q, e, r, h, q => by
    cases ds with
    | nil => unfold bindTs at h; cases h
    | cons d ds =>
      unfold bindTs at h
      rw [Option.bind_eq_some_iff] at h
      obtain ⟨ρ1, h1, h2⟩ := h
      simp only [RepL] at r
      obtain ⟨v, vs', ev, r1, r2⟩ := r
      unfold gOfs
      refine ⟨v, vs', ev, gOf_use t d v ρ ρ1 σ FP _ e r1 h1 fun σ1 FP1 e1 f1 l1 s1 => ?_⟩
      refine gOfs_use ts ds vs' ρ1 ρ2 σ1 FP1 _ e1 r2 h2 fun σ2 FP2 e2 f2 l2 s2 => ?_
      refine q σ2 FP2 e2 (fun i a h => f1 i a (f2 i a h)) (l2.trans l1) fun j hj => ?_
      have hj' : j ∉ slots t ∧ j ∉ slotss ts := by
        simp only [slotss, List.mem_append, not_or] at hj
        exact hj
      rw [s2 j hj'.2, s1 j hj'.1]
theorem bindTs_len : ∀ (ts : List Tg) (ds : List D) (ρ ρ2 : Rho), bindTs ts ds ρ = some ρ2 → ts.length = ds.length
  | [], [], _, _, _ => rfl
  | [], _ :: _, _, _, h => by unfold bindTs at h; cases h
  | _ :: _, [], _, _, h => by unfold bindTs at h; cases h
  | t :: ts, d :: ds, ρ, ρ2, h => by
    unfold bindTs at h
    rw [Option.bind_eq_some_iff] at h
    obtain ⟨ρ1, _, h2⟩ := h
    rw [List.length_cons, List.length_cons, bindTs_len ts ds ρ1 ρ2 h2]
end
/-- what a target's text asks of the context -/
structure TgOk (k : Ck) (X : Cx) : Prop where
  hN : X.N = k.N
  nd : k.N.Nodup
  sc : X.env.scope = k.sc
  fl : k.fl = true → ∀ x, X.fn x = true
  calm : X.calm = true
mutual
theorem snd_tg {k : Ck} {X : Cx} (h : TgOk k X) : ∀ (t : Tg) (e : Expr), chkT k t e = true → PG X e (gOf X.K t)
  | .nm i, e, c => by
    unfold chkT at c
    split at c
    · rename_i x p
      simp only [Bool.and_eq_true, Bool.or_eq_true, decide_eq_true_eq] at c
      unfold gOf
      refine pg_name (by rw [h.hN]; exact h.nd) (by rw [h.hN]; exact c.1) ?_ ?_
      · unfold L2.Loc; rw [h.sc]; exact c.2.imp id (·.2)
      · rw [h.sc]
        rcases c.2 with c2 | c2
        · exact .inr c2
        · exact .inl (h.fl c2.1 x)
    · cases c
  | .tp ts, e, c => by
    unfold chkT at c
    split at c
    · rename_i es j p
      unfold gOf
      exact pg_tup h.calm (snd_tgs h ts es c) (snd_tgs_len ts es c) (hst := List.findIdx?_eq_none_iff.mpr (snd_tgs_star ts es c))
    · cases c
theorem snd_tgs {k : Ck} {X : Cx} (h : TgOk k X) : ∀ (ts : List Tg) (es : List Expr), chkTs k ts es = true → PGs X es (gOfs X.K ts)
  | [], es, c => by
    unfold chkTs at c
    split at c
    · unfold gOfs; exact pgs_nil
    · cases c
  | t :: ts, es, c => by
    unfold chkTs at c
    split at c
    · rename_i e r
      simp only [Bool.and_eq_true] at c
      unfold gOfs
      exact pgs_cons (snd_tg h t e c.1.2) (snd_tgs h ts r c.2) (by cases e <;> first | rfl | (cases c.1.1; done))
    · cases c
theorem snd_tgs_len {k : Ck} {X : Cx} : ∀ (ts : List Tg) (es : List Expr), chkTs k ts es = true → (assignEach es X.env).length = ts.length
  | [], es, c => by
    unfold chkTs at c
    split at c
    · rfl
    · cases c
  | t :: ts, es, c => by
    unfold chkTs at c
    split at c
    · rename_i e r
      simp only [Bool.and_eq_true] at c
      have ih := snd_tgs_len (X := X) ts r c.2
      rw [List.length_cons, ← ih]
      cases e <;> first | rfl | (cases c.1.1; done)
    · cases c
theorem snd_tgs_star {k : Ck} {X : Cx} : ∀ (ts : List Tg) (es : List Expr), chkTs k ts es = true → ∀ x ∈ assignEach es X.env, x.1 = false
  | [], es, c, x, hx => by
    unfold chkTs at c
    split at c
    · cases hx
    · cases c
  | t :: ts, es, c, x, hx => by
    unfold chkTs at c
    split at c
    · rename_i e r
      simp only [Bool.and_eq_true] at c
      have ih := snd_tgs_star (X := X) ts r c.2
      have e0 : ∃ y, assignEach (e :: r) X.env = (false, y) :: assignEach r X.env := by
        cases e <;> first | exact ⟨_, rfl⟩ | (cases c.1.1; done)
      obtain ⟨y, e0⟩ := e0
      rw [e0] at hx
      rcases List.mem_cons.mp hx with hx | hx
      · rw [hx]
      · exact ih x hx
    · cases c
end
end Pi

set_option Elab.async false
set_option linter.all false
set_option maxRecDepth 100000
set_option maxHeartbeats 4000000
/-! Pi15: comprehensions. -/
namespace Pi
open PySem PySem.Spec PyProof.Rows L2
section
variable {K : Fr} {H : Hp} {Z : Addr → Prop} {ρ : Rho} {σ : Pi.St} {FP : Nat → List Addr}
theorem EnvOk.unset (e : EnvOk K H Z ρ σ FP) (i : Nat) : EnvOk K H Z (ρ.set i none) (σ.set i none) (fun j => if j = i then [] else FP j) := by
  have hj : ∀ {j : Nat}, j ≠ i → (ρ.set i none)[j]? = ρ[j]? := fun {j} h => List.getElem?_set_ne (Ne.symm h)
  have hs : ∀ {j : Nat}, j ≠ i → (σ.set i none)[j]? = σ[j]? := fun {j} h => List.getElem?_set_ne (Ne.symm h)
  have no : ∀ {x : Bool × D}, (ρ.set i none)[i]? ≠ some (some x) := fun {x} h => by
    by_cases hi : i < ρ.length
    · rw [List.getElem?_set_self hi] at h; cases h
    · rw [List.getElem?_eq_none (by simp; omega)] at h; cases h
  refine ⟨by simp [e.len], fun j d' h => ?_, fun j d' h => ?_, fun j a h => ?_, e.zd, fun j j' a h h' => ?_⟩
  · by_cases hji : j = i
    · subst hji; exact absurd h no
    · rw [hj hji] at h
      obtain ⟨w, h1, h2⟩ := e.fz j d' h
      exact ⟨w, by rw [hs hji]; exact h1, h2⟩
  · by_cases hji : j = i
    · subst hji; exact absurd h no
    · rw [hj hji] at h
      obtain ⟨w, h1, h2⟩ := e.ow j d' h
      refine ⟨w, by rw [hs hji]; exact h1, ?_⟩
      rw [if_neg hji]
      exact h2
  · by_cases hji : j = i
    · rw [if_pos hji] at h; simp at h
    · rw [if_neg hji] at h
      rw [hj hji]
      exact e.emp j a h
  · by_cases hji : j = i
    · rw [if_pos hji] at h; simp at h
    · by_cases hji' : j' = i
      · rw [if_pos hji'] at h'; simp at h'
      · rw [if_neg hji] at h
        rw [if_neg hji'] at h'
        exact e.dis j j' a h h'
theorem EnvOk.wipe (e : EnvOk K H Z ρ σ FP) : ∀ vs : List Nat, ∃ FP2, EnvOk K H Z (wipeR ρ vs) (L2.wipe σ vs) FP2
  | [] => ⟨FP, e⟩
  | v :: vs => by
    obtain ⟨FP2, h⟩ := EnvOk.wipe e vs
    exact ⟨_, h.unset v⟩
end
theorem wipe_get (σ : Pi.St) : ∀ (vs : List Nat) (j : Nat), (L2.wipe σ vs)[j]? = if j ∈ vs ∧ j < σ.length then some none else σ[j]?
  | [], j => by simp [L2.wipe]
  | v :: vs, j => by
    have ih := wipe_get σ vs j
    show ((L2.wipe σ vs).set v none)[j]? = _
    by_cases h : v = j
    · subst h
      by_cases hl : v < σ.length
      · rw [List.getElem?_set_self (by rw [wipe_length]; exact hl), if_pos ⟨by simp, hl⟩]
      · rw [List.getElem?_eq_none (by rw [List.length_set, wipe_length]; omega), if_neg (fun z => hl z.2), List.getElem?_eq_none (by omega)]
    · rw [List.getElem?_set_ne h, ih]
      by_cases hm : j ∈ vs
      · by_cases hl : j < σ.length
        · rw [if_pos ⟨hm, hl⟩, if_pos ⟨List.mem_cons_of_mem _ hm, hl⟩]
        · rw [if_neg (fun z => hl z.2), if_neg (fun z => hl z.2)]
      · rw [if_neg (fun z => hm z.1), if_neg (fun z => (List.mem_cons.mp z.1).elim (fun q => h q.symm) hm)]
theorem wipe_same {σ σ2 : Pi.St} {vs : List Nat} (hl : σ2.length = σ.length) (h : ∀ j, j ∉ vs → σ2[j]? = (L2.wipe σ vs)[j]?) : L2.wipe σ2 vs = L2.wipe σ vs := by
  apply List.ext_getElem?
  intro j
  rw [wipe_get, wipe_get, hl]
  by_cases hm : j ∈ vs
  · by_cases hk : j < σ.length
    · rw [if_pos ⟨hm, hk⟩, if_pos ⟨hm, hk⟩]
    · rw [if_neg (fun z => hk z.2), if_neg (fun z => hk z.2), List.getElem?_eq_none (by omega), List.getElem?_eq_none (by omega)]
  · rw [if_neg (fun z => hm z.1), if_neg (fun z => hm z.1), h j hm, wipe_get, if_neg (fun z => hm z.1)]
theorem out_of_ok {X : Cx} {W : WX} {H : Hp} {Z : Addr → Prop} {σ : Pi.St} {α : Type} {R : α → Hp → (Addr → Prop) → Prop} {r : Res α} {a : α} (e : r = .ok a) (h : ∀ H' Z', Ext H Z H' Z' → R a H' Z') : Out X W H Z σ R r := by rw [e]; exact h
abbrev WF : WX := fun _ _ _ _ => False
section
variable {X : Cx} {W : WX} {fi : Rho → Res (List D)} {fc : Rho → Res Bool} {fx : Rho → Res (Mo × D)} {tg : Tg} {vs : List Nat}
theorem lcL_step {F : D → Option (Option D)} {d : D} {r out : List D} (h : lcL F (d :: r) = some out) : (∃ y rest, F d = some (some y) ∧ lcL F r = some rest ∧ out = y :: rest) ∨ (F d = some none ∧ lcL F r = some out) := by
  unfold lcL at h
  split at h
  · rename_i y hy
    rw [Option.map_eq_some_iff] at h
    obtain ⟨rest, h1, h2⟩ := h
    exact .inl ⟨y, rest, hy, h1, h2.symm⟩
  · rename_i hy
    exact .inr ⟨hy, h⟩
  · cases h
theorem lcStep_some {o : Option Rho} {z : Option D} (h : lcStep o fc fx = some z) : ∃ ρ2, o = some ρ2 ∧ ((fc ρ2 = .ok true ∧ ∃ m y, fx ρ2 = .ok (m, y) ∧ m ≠ .bo ∧ z = some y) ∨ (fc ρ2 = .ok false ∧ z = none)) := by
  unfold lcStep at h
  split at h
  · cases h
  · rename_i ρ2
    refine ⟨ρ2, rfl, ?_⟩
    split at h
    · rename_i hc
      split at h
      · rename_i m y hx
        split at h <;> cases h
        rename_i hm
        exact .inl ⟨hc, m, y, hx, hm, rfl⟩
      · cases h
    · rename_i hc
      cases h
      exact .inr ⟨hc, rfl⟩
    · cases h
theorem lc_use (hsl : ∀ i ∈ slots tg, i ∈ vs) (σ : Pi.St) (H : Hp) (Q : VK)
    (h : GE X W (fun ρ => fi ρ >>= fun l => lcR (fun d => lcStep (bindT tg d (wipeR ρ vs)) fc fx) l) σ H Q) : tLc (GI X W fi) (gOf X.K tg) (GT X WF fc) (GE X WF fx) vs σ H Q := by
  obtain ⟨ρ, Z, FP, e, o⟩ := h
  refine ⟨ρ, Z, FP, e, Out.bind' o fun l H1 Z1 _ x1 o1 J wk Dd hD => ?_⟩
  have e1 := x1.env e
  unfold lcR at o1
  generalize hF : (fun d => lcStep (bindT tg d (wipeR ρ vs)) fc fx) = F at o1
  cases hL : lcL F l with
  | none => rw [hL] at o1; exact o1.elim
  | some out =>
    rw [hL] at o1
    by_cases hz : out.length ≤ sizeLine
    · simp only [hz, if_true] at o1
      have nz1 : ¬ Z1 Dd := fun z => e1.zd Dd z hD
      refine lc_it wk (fun i Hh => ∃ Zc acc done rest, Ext H1 Z1 Hh Zc ∧ ¬ Zc Dd ∧ Hh Dd = some (.lst acc) ∧ RepL X.fr Hh Zc done acc ∧ lcL F (l.drop i) = some rest ∧ out = done ++ rest)
        ⟨Z1, [], [], out, .new hD, nz1, upd_same, by simp [RepL], by simpa using hL, rfl⟩ (fun i Hh _ ⟨Zc, acc, done, rest, x, _⟩ => x.kp) ?_ ?_
      · rintro i x Hh H' hi ⟨Zc, acc, done, rest, xc, nz, hacc, racc, hrest, eout⟩ ⟨d, hd, rd, hH'⟩
        have xh : Ext Hh Zc H' Zc := by
          rcases hH' with eh | ⟨T, oo, hT, eh⟩
          · rw [eh]; exact .refl
          · rw [eh]; exact .new hT
        have e2 := xh.env (xc.env e1)
        obtain ⟨FPw, ew⟩ := e2.wipe vs
        have hdrop : l.drop i = d :: l.drop (i + 1) := by
          rw [List.drop_eq_getElem_cons hi]
          congr 1
          rw [List.getElem?_eq_getElem hi] at hd
          exact Option.some.inj hd
        rw [hdrop] at hrest
        have hFd : ∃ z, F d = some z := by
          rcases lcL_step hrest with ⟨y, r, h1, _⟩ | ⟨h1, _⟩
          · exact ⟨_, h1⟩
          · exact ⟨_, h1⟩
        obtain ⟨z, hz1⟩ := hFd
        have hz2 : lcStep (bindT tg d (wipeR ρ vs)) fc fx = some z := by rw [← hF] at hz1; exact hz1
        obtain ⟨ρ2, hb, hcase⟩ := lcStep_some hz2
        have rd2 : Rep X.fr H' Zc d x := Rep.kp .refl xc.z _ _ rd
        refine gOf_use tg d x (wipeR ρ vs) ρ2 (L2.wipe σ vs) FPw _ ew rd2 hb fun σ2 FP2 e3 _ l2 s2 => ?_
        have hl2 : σ2.length = σ.length := by rw [l2, wipe_length]
        refine ⟨wipe_same hl2 fun j hj => s2 j fun hs => hj (hsl j hs), ?_⟩
        rcases hcase with ⟨hc, m, y, hx, hm, ez⟩ | ⟨hc, ez⟩
        · subst ez
          refine ⟨ρ2, Zc, FP2, e3, out_of_ok hc fun H3 Z3 x3 => ?_⟩
          simp only [if_true]
          refine ⟨ρ2, Z3, FP2, x3.env e3, out_of_ok hx fun H4 Z4 x4 v r4 => ?_⟩
          have xa : Ext Hh Zc H4 Z4 := xh.trans (x3.trans x4)
          have hacc4 : H4 Dd = some (.lst acc) := xa.same _ _ hacc
          have hacc3 : H3 Dd = some (.lst acc) := (xh.trans x3).same _ _ hacc
          rcases lcL_step hrest with ⟨y', rest', h1, h2, h3⟩ | ⟨h1, h2⟩
          · rw [hz1] at h1
            cases h1
            -- freeze what is new in v
            have fr : ∃ Zn, Ext H1 Z1 H4 Zn ∧ (∀ a, Z4 a → Zn a) ∧ ¬ Zn Dd ∧ Rep X.fr H4 Zn y v := by
              have nz4 : ¬ Z4 Dd := fun z => by
                rcases xa.zn Dd z with q | q
                · exact nz q
                · rw [hacc] at q; cases q.1
              cases m with
              | fz => exact ⟨Z4, xc.trans xa, fun _ h => h, nz4, r4⟩
              | ow =>
                obtain ⟨G, g1, g2⟩ := r4
                have hGt : ∀ a ∈ G, H4 a ≠ none := fun a ha => by
                  obtain ⟨_, u, hu, _⟩ := Own.dom y G v g1 a ha
                  rw [hu]; simp
                have hGn : ∀ a ∈ G, H1 a = none := fun a ha => (xc.trans (xh.trans x3)).same.free (g2 a ha)
                refine ⟨fun a => Z4 a ∨ a ∈ G, Ext.freeze (xc.trans xa) hGn hGt, fun _ h => .inl h, fun h => ?_, Own.rep (fun a h => .inl h) y G v (fun a h => .inr h) g1⟩
                rcases h with h | h
                · exact nz4 h
                · have := g2 Dd h; rw [hacc3] at this; cases this
              | bo => exact absurd rfl hm
            obtain ⟨Zn, xn, zin, nzn, rv⟩ := fr
            have ra : RepL X.fr H4 Zn (done ++ [y]) (acc ++ [v]) := (RepL.kp xa.kp (fun a h => zin a (xa.z a h)) _ _ racc).append (by simp only [RepL]; exact ⟨v, [], rfl, rv, rfl⟩)
            have notup : ∀ xs, ¬ Rd H4 Dd (.tup xs) := Cont.noTup hacc4 (.inl ⟨_, rfl⟩)
            refine ⟨acc, hacc4, ?_, Zn, acc ++ [v], done ++ [y], rest', ?_, nzn, upd_same, RepL.kp (Kp.upd nzn notup) (fun _ h => h) _ _ ra, h2, by rw [eout, h3]; simp⟩
            · have hlen := racc.length
              have := congrArg List.length eout
              rw [h3] at this
              simp at this
              omega
            · refine ⟨fun b u hb => ?_, xn.z, fun a h => (xn.zn a h).imp id fun q => ⟨q.1, fun z => q.2 ?_⟩⟩
              · rw [upd_ne (ne_of_none hb hD)]
                exact xn.same b u hb
              · by_cases ea : a = Dd
                · subst ea; rw [upd_same] at z; cases z
                · rw [upd_ne ea] at z; exact z
          · rw [hz1] at h1; cases h1
        · subst ez
          refine ⟨ρ2, Zc, FP2, e3, out_of_ok hc fun H3 Z3 x3 => ?_⟩
          simp only [Bool.false_eq_true, if_false]
          rcases lcL_step hrest with ⟨y', rest', h1, h2, h3⟩ | ⟨h1, h2⟩
          · rw [hz1] at h1; cases h1
          · have xa : Ext Hh Zc H3 Z3 := xh.trans x3
            refine ⟨Z3, acc, done, rest, xc.trans xa, fun z => ?_, xa.same _ _ hacc, xa.repL racc, h2, eout⟩
            rcases xa.zn Dd z with q | q
            · exact nz q
            · rw [hacc] at q; cases q.1
      · rintro Hh ⟨Zc, acc, done, rest, xc, nz, hacc, racc, hrest, eout⟩
        have er : rest = [] := by
          rw [List.drop_of_length_le (Nat.le_refl _)] at hrest
          cases hrest
          rfl
        subst er
        rw [List.append_nil] at eout
        subst eout
        have hDn : H Dd = none := x1.same.free hD
        have xt := x1.trans xc
        by_cases ha : out.all D.atom = true
        · refine out_ok o1 xt _ ?_
          show ResOk X.fr H Hh Zc FP (lmo out) (.lst out) (.ref Dd)
          rw [show lmo out = .ow from if_pos ha]
          refine ⟨[Dd], ?_, fun a h => ?_⟩
          · simp only [Own]
            exact ⟨Dd, acc, [], rfl, rfl, hacc, nz, by simp, ownL_atoms ha racc⟩
          · have : a = Dd := by simpa using h
            rw [this]; exact hDn
        · have x2 : Ext H Z Hh (fun a => Zc a ∨ a ∈ [Dd]) := Ext.freeze xt (fun a h => by have : a = Dd := by simpa using h
                                                                                          rw [this]; exact hDn) (fun a h => by have : a = Dd := by simpa using h
                                                                                                                               rw [this, hacc]; simp)
          refine out_ok o1 x2 _ ?_
          show ResOk X.fr H Hh _ FP (lmo out) (.lst out) (.ref Dd)
          rw [show lmo out = .fz from if_neg ha]
          show Rep _ _ _ _ _
          simp only [Rep]
          exact ⟨Dd, acc, rfl, hacc, .inr (by simp), RepL.kp .refl (fun _ h => .inl h) _ _ racc⟩
    · simp only [hz, if_false] at o1
      exact o1.elim
end
end Pi

set_option Elab.async false
set_option linter.all false
set_option maxRecDepth 100000
set_option maxHeartbeats 4000000
/-! Pi16: every term stands for what the text's expression does. -/
namespace Pi
open PySem PySem.Spec PyProof.Rows L2
mutual
theorem tgIn_slots {vs : List Nat} : ∀ (t : Tg), tgIn vs t = true → ∀ i ∈ slots t, i ∈ vs
  | .nm i, h, j, hj => by
    have : j = i := by simpa [slots] using hj
    rw [this]
    simpa [tgIn] using h
  | .tp ts, h, j, hj => tgIns_slots ts (by simpa [tgIn] using h) j (by simpa [slots] using hj)
theorem tgIns_slots {vs : List Nat} : ∀ (ts : List Tg), tgIns vs ts = true → ∀ i ∈ slotss ts, i ∈ vs
  | [], _, j, hj => by simp [slotss] at hj
  | t :: ts, h, j, hj => by
    simp only [tgIns, Bool.and_eq_true] at h
    simp only [slotss, List.mem_append] at hj
    rcases hj with hj | hj
    · exact tgIn_slots t h.1 j hj
    · exact tgIns_slots ts h.2 j hj
end
theorem own_snd (N : List Str) (vs : List Nat) : (ownOf N vs).map (·.2) = vs := by
  unfold ownOf
  rw [List.map_map]
  exact List.map_id vs
theorem okName_of {x : Str} (h : okName x = true) : (x == ("__debug__" : Str)) = false ∧ (x == ("__classdict__" : Str)) = false ∧ (x == ("__name__" : Str)) = false := by
  unfold okName at h
  simp only [Bool.and_eq_true, Bool.not_eq_true'] at h
  exact ⟨h.1.1, h.1.2, h.2⟩
structure Snd (k : Ck) (X : Cx) (W : WX) (e : E) (a : Expr) : Prop where
  pe : PE X a (GE X W (ev k.T e))
  pt : e.tst = true → PT X a (GT X W (fT (ev k.T e)))
  pw : ∀ (op : BoolOp) (l : List Expr) (p : Pos), a = .BoolOp op l p → e.tst = true → PW X a (GT X W (fT (ev k.T e)))
theorem Snd.of_val {k : Ck} {X : Cx} {W : WX} {e : E} {a : Expr} (h : PE X a (GE X W (ev k.T e))) (v : valE a = true) : Snd k X W e a :=
  ⟨h, fun _ => tst_val h (valE_true v X.env), fun op l p ea => by rw [ea] at v; cases v⟩
section
variable {k : Ck} {X : Cx} {W : WX}
theorem CkOk.gl_ {k : Ck} {X : Cx} {W : WX} (c : CkOk k X W) {x : Str} (h : glB k.sc x = true) : Gl X x := by
  show X.env.scope.names.lookup x = some .globalImplicit
  rw [c.sc]
  exact of_decide_eq_true h
theorem CkOk.vis (c : CkOk k X W) {x : Str} (h : visB k.sc x = true) : Vis X.env.scope x := by
  unfold visB at h
  rw [c.sc]
  unfold Vis
  split at h
  · rename_i q; exact .inl q
  · rename_i q; exact .inr (.inl q)
  · rename_i q; exact .inr (.inr q)
  · cases h
theorem CkOk.tg (c : CkOk k X W) : TgOk k X := ⟨c.hN, c.nd, c.sc, c.fl, c.calm⟩
theorem takes_F {X : Cx} : Takes X WF := fun u s' ⟨_, _, _, _, _, _, _, _, _, _, _, _, _, _, _, _, w⟩ => w.elim
/-- within a comprehension -/
theorem CkOk.blk (c : CkOk k X W) (s : Shared) (H : Hp) (scope : Scope) (cl : List (Str × Addr)) (C : Addr) (fp : List Addr) : CkOk (k.blk scope) (X.blk s H scope (compEnvC scope cl C X.env) fp) WF where
  hN := c.hN
  nd := c.nd
  sc := by
    show relS scope X.env.scope = relS scope k.sc
    rw [c.sc]
  fl := fun h => by cases h
  calm := c.calm
  un := c.un
  tk := takes_F
  tab := ⟨c.tab.gl, c.tab.fn, c.tab.md, c.tab.bt⟩
theorem chks_plain : ∀ (es : Es) (k : Ck) (l : List Expr), chks es k l = true → l.all plainE = true
  | .nil, k, l, h => by
    unfold chks at h
    split at h
    · rfl
    · cases h
  | .cons e es, k, l, h => by
    unfold chks at h
    split at h
    · rename_i x r
      simp only [Bool.and_eq_true] at h
      rw [List.all_cons, h.1.1, chks_plain es k r h.2]; rfl
    · cases h
theorem evs_len {T : Tab} : ∀ (es : Es) (k : Ck) (l : List Expr), chks es k l = true → ∀ ρ as, evs T es ρ = .ok as → as.length = l.length
  | .nil, k, l, h, ρ, as, q => by
    unfold chks at h
    split at h
    · unfold evs at q; cases q; rfl
    · cases h
  | .cons e es, k, l, h, ρ, as, q => by
    unfold chks at h
    split at h
    · rename_i x r
      simp only [Bool.and_eq_true] at h
      unfold evs at q
      obtain ⟨v, _, q⟩ := bind_eq_ok q
      obtain ⟨w, q1, q⟩ := bind_eq_ok q
      cases q
      rw [List.length_cons, List.length_cons, evs_len es k r h.2 ρ w q1]
    · cases h
theorem evs_nil {T : Tab} : ∀ (es : Es) (k : Ck) (l : List Expr), chks es k l = true → l = [] → ∀ ρ, evs T es ρ = .ok []
  | .nil, k, l, h, hl, ρ => by unfold evs; rfl
  | .cons e es, k, l, h, hl, ρ => by subst hl; unfold chks at h; cases h
theorem nob_of {op : CmpOp} {e : Expr} (h : ∀ es k p, e ≠ .Set es k p) : behindInMarks op e = false := by
  cases e <;> first | rfl | exact absurd rfl (h _ _ _)
theorem chk_set : ∀ (e : E) (k : Ck) (es : List Expr) (j : Nat) (p : Pos), chk e k (.Set es j p) = false := fun e k es j p => by
  cases e <;> unfold chk <;> rfl
theorem chk_noset {e : E} {k : Ck} {a : Expr} (h : chk e k a = true) : ∀ es j p, a ≠ .Set es j p := fun es j p ea => by
  rw [ea, chk_set] at h; cases h
end
end Pi

set_option Elab.async false
set_option linter.all false
set_option maxRecDepth 100000
set_option maxHeartbeats 4000000
/-! PiDic: entries that are put; displays of dicts. -/
namespace Pi
open PySem PySem.Spec PyProof.Rows L2
section
variable {K : Fr} {H : Hp} {Z : Addr → Prop} {κ : Type} [DecidableEq κ]
theorem zip_put (f : κ → D) (hb : ∀ a b, beqK (f a) (f b) = decide (a = b)) (k : κ) {d : D} {v : V} (r : Rep K H Z d v) : ∀ (kvs : List (κ × V)) (vs : List D), RepL K H Z vs (kvs.map (·.2)) →
    RepL K H Z (((kvs.map fun p => f p.1).zip vs).map fun p => if beqK p.1 (f k) = true then d else p.2) ((kvs.map fun kv => if kv.1 = k then (kv.1, v) else kv).map (·.2))
  | [], vs, h => by simp [RepL]
  | p :: t, [], h => by simp [RepL] at h
  | p :: t, w :: vs, h => by
    simp only [List.map_cons, RepL] at h
    obtain ⟨u, t', e, h1, h2⟩ := h
    simp only [List.cons.injEq] at e
    obtain ⟨e1, e2⟩ := e
    subst e2
    simp only [List.map_cons, List.zip_cons_cons, RepL]
    refine ⟨_, _, rfl, ?_, zip_put f hb k r t vs h2⟩
    rw [hb]
    by_cases hk : p.1 = k
    · simp only [hk, decide_true, if_true]
      exact r
    · simp only [hk, decide_false, Bool.false_eq_true, if_false]
      rw [e1]
      exact h1
theorem dput_put (f : κ → D) (hb : ∀ a b, beqK (f a) (f b) = decide (a = b)) (hm : ∀ (k : κ) (kvs : List (κ × V)), kmem (kvs.map fun p => f p.1) (f k) = (valV kvs k).isSome) (k : κ) {d : D} {v : V} (r : Rep K H Z d v) (kvs : List (κ × V)) (vs : List D) (h : RepL K H Z vs (kvs.map (·.2))) :
    (dput (kvs.map fun p => f p.1) vs (f k) d).1 = (putK kvs k v).map (fun p => f p.1) ∧ RepL K H Z (dput (kvs.map fun p => f p.1) vs (f k) d).2 ((putK kvs k v).map (·.2)) := by
  unfold dput putK
  rw [hm, valV_any]
  by_cases hs : (valV kvs k).isSome = true
  · rw [if_pos hs, if_pos hs]
    refine ⟨?_, zip_put f hb k r kvs vs h⟩
    rw [List.map_map]
    exact List.map_congr_left fun p _ => by
      show f p.1 = f (if p.1 = k then (p.1, v) else p).1
      split <;> rfl
  · rw [if_neg hs, if_neg hs]
    refine ⟨by rw [List.map_append]; rfl, ?_⟩
    rw [List.map_append]
    exact h.append (by simp only [List.map_cons, List.map_nil, RepL]; exact ⟨v, [], rfl, r, rfl⟩)
end
theorem dput_atoms {ks vs : List D} {k d : D} (ha : vs.all D.atom = true) (hd : d.atom = true) : (dput ks vs k d).2.all D.atom = true := by
  unfold dput
  split
  · rw [List.all_eq_true] at ha ⊢
    intro x hx
    obtain ⟨p, hp, e⟩ := List.mem_map.mp hx
    subst e
    split
    · exact hd
    · exact ha _ (List.of_mem_zip hp).2
  · show (vs ++ [d]).all D.atom = true
    rw [List.all_append, ha]
    simpa using hd
theorem length_mergeK : ∀ (more kvs : List (Key × V)), (mergeK kvs more).length ≤ kvs.length + more.length
  | [], kvs => Nat.le_refl _
  | p :: r, kvs => by
    have h1 := length_mergeK r (putK kvs p.1 p.2)
    have h2 := length_putK kvs p.1 p.2
    show (mergeK (putK kvs p.1 p.2) r).length ≤ _
    simp only [List.length_cons]
    omega
theorem dputs_merge {K : Fr} {H : Hp} {Z : Addr → Prop} : ∀ (more : List (Key × V)) (ws : List D) (kvs : List (Key × V)) (vs : List D), RepL K H Z ws (more.map (·.2)) → RepL K H Z vs (kvs.map (·.2)) → ws.all D.atom = true → vs.all D.atom = true →
    (dputs (more.map fun p => keyD p.1) ws (kvs.map fun p => keyD p.1, vs)).1 = (mergeK kvs more).map (fun p => keyD p.1) ∧ RepL K H Z (dputs (more.map fun p => keyD p.1) ws (kvs.map fun p => keyD p.1, vs)).2 ((mergeK kvs more).map (·.2)) ∧ (dputs (more.map fun p => keyD p.1) ws (kvs.map fun p => keyD p.1, vs)).2.all D.atom = true
  | [], ws, kvs, vs, h1, h2, a1, a2 => by simp only [List.map_nil, dputs]; exact ⟨rfl, h2, a2⟩
  | p :: r, [], kvs, vs, h1, h2, a1, a2 => by simp [RepL] at h1
  | p :: r, w :: ws, kvs, vs, h1, h2, a1, a2 => by
    simp only [List.map_cons, RepL] at h1
    obtain ⟨u, t, e, h3, h4⟩ := h1
    simp only [List.cons.injEq] at e
    obtain ⟨e1, e2⟩ := e
    subst e2
    rw [List.all_cons, Bool.and_eq_true] at a1
    obtain ⟨p1, p2⟩ := dput_put keyD beqK_key kmem_key p.1 (show Rep K H Z w p.2 by rw [e1]; exact h3) kvs vs h2
    simp only [List.map_cons, dputs]
    have e5 : (Pi.dput (kvs.map fun p => keyD p.1) vs (keyD p.1) w) = ((putK kvs p.1 p.2).map (fun p => keyD p.1), (Pi.dput (kvs.map fun p => keyD p.1) vs (keyD p.1) w).2) := by rw [← p1]
    rw [e5]
    exact dputs_merge r ws (putK kvs p.1 p.2) _ h4 p2 a1.2 (dput_atoms a2 a1.1)

section
variable {k : Ck} {X : Cx} {W : WX}
/-- {}, to be a dict of kind 2 -/
theorem pe_dnewN {pos : Pos} : PE X (.Dict [] [] pos) (fun _ H Q => ∀ p, H p = none → Q (.ref p) (upd H p (ND X.fr p []))) := ⟨fun pins s σ H Q I h =>
  wpAny_Dict_empty ⟨.ref s.heap.objs.size, _, I.laid (a := s.heap.objs.size) (o := ND X.fr s.heap.objs.size []) (t' := s.toks) (fun _ _ q => Heap.get?_push_of_some _ q) (Nat.le_refl _)
    (nd_new (X := X) (vs := []) (Nat.zero_le _) (beq_eq_false_iff_ne.mpr (Ne.symm (Nat.ne_of_lt I.big))) .nil (Heap.DictOf.new s.heap)), rfl, h _ (I.hok.fresh (Nat.le_refl _))⟩⟩
/-- the readings of the pairs -/
def prs (X : Cx) (W : WX) (T : Tab) : List D → Es → List (TE × TE)
  | .int i :: ks, .cons e es => (tC (.int i), GE X W (ev T e)) :: prs X W T ks es
  | .str s :: ks, .cons e es => (tC (.str (mkS s)), GE X W (ev T e)) :: prs X W T ks es
  | _ :: ks, .cons e es => (tC .non, GE X W (ev T e)) :: prs X W T ks es
  | _, _ => []
def keyV : D → V
  | .int i => .int i
  | .str s => .str (mkS s)
  | _ => .non
def esLen : Es → Nat
  | .nil => 0
  | .cons _ es => esLen es + 1
theorem prs_use {T : Tab} {β : Type} {R : β → Hp → (Addr → Prop) → Prop} : ∀ (es : Es) (ks : List D) (ρ : Rho) (σ : Pi.St) (H : Hp) (Z : Addr → Prop) (FP : Nat → List Addr) (kk : List (Mo × D) → Res β) (Q : List (V × V) → Hp → Prop), ks.all (kOk 0) = true → EnvOk X.fr H Z ρ σ FP →
    esLen es = ks.length → Out X W H Z σ R (evs T es ρ >>= kk) →
    (∀ as G vs H1 Z1, evs T es ρ = .ok as → Ext H Z H1 Z1 → ResL X.fr H H1 Z1 FP as G vs → Out X W H Z σ R (kk as) → Q ((ks.map keyV).zip vs) H1) → tPairs (prs X W T ks es) σ H Q
  | .nil, ks, ρ, σ, H, Z, FP, kk, Q, hk, e, hl, o, c => by
    have e0 : evs T .nil ρ = .ok [] := rfl
    cases ks with
    | nil =>
      show Q [] H
      exact c [] [] [] H Z e0 .refl (by simp only [ResL]; exact ⟨trivial, trivial⟩) (by rw [e0] at o; exact o)
    | cons x r => cases hl
  | .cons x es, [], ρ, σ, H, Z, FP, kk, Q, hk, e, hl, o, c => by cases hl
  | .cons x es, kd :: ks, ρ, σ, H, Z, FP, kk, Q, hk, e, hl, o, c => by
    have e0 : evs T (.cons x es) ρ = (ev T x ρ >>= fun y => evs T es ρ >>= fun as => .ok (y :: as)) := rfl
    rw [List.all_cons, Bool.and_eq_true] at hk
    have go : GE X W (ev T x) σ H fun y H2 => tPairs (prs X W T ks es) σ H2 fun ps H3 => Q ((keyV kd, y) :: ps) H3 := by
      rw [e0, res_assoc] at o
      refine GE.bind' e o fun y v H1 Z1 ey x1 r1 e1 o1 => ?_
      have o1 := Out.step o1 x1
      rw [res_assoc] at o1
      refine prs_use es ks ρ σ H1 Z1 FP (fun as => kk (y :: as)) _ hk.2 e1 (by simpa [esLen] using hl) o1 fun as G vs H2 Z2 ea x2 r2 o2 => ?_
      · have et : evs T (.cons x es) ρ = .ok (y :: as) := by rw [e0, ey]; show (evs T es ρ >>= fun as => Res.ok (y :: as)) = _; rw [ea]; rfl
        obtain ⟨m, d⟩ := y
        have r2' := r2.back x1.same
        have rl : ∃ G', ResL X.fr H H2 Z2 FP ((m, d) :: as) G' (v :: vs) := by
          cases m with
          | fz => exact ⟨G, by simp only [ResL]; exact ⟨v, vs, [], G, rfl, rfl, by simp, ⟨rfl, r1.ext x2⟩, r2'⟩⟩
          | ow =>
            obtain ⟨G1, h1, h2⟩ := r1
            refine ⟨G1 ++ G, ?_⟩
            simp only [ResL]
            refine ⟨v, vs, G1, G, rfl, rfl, fun a ha hg => ?_, ⟨x2.own h1, h2⟩, r2'⟩
            obtain ⟨_, u, hu, _⟩ := Own.dom d G1 v h1 a ha
            rw [r2.new a hg] at hu
            cases hu
          | bo => exact ⟨G, by simp only [ResL]; exact ⟨v, vs, [], G, rfl, rfl, by simp, ⟨rfl, r1.ext x2⟩, r2'⟩⟩
        obtain ⟨G', rl⟩ := rl
        exact c ((m, d) :: as) G' (v :: vs) H2 Z2 et (x1.trans x2) rl (by
          have : Out X W H Z σ R (evs T (.cons x es) ρ >>= kk) := by rw [e0, res_assoc]; exact o
          rw [et] at this
          exact this)
    cases kd <;> first | exact go | (cases hk.1; done)
theorem chkk_cons {d : D} {r : List D} {l : List (Option Expr)} (h : chkk (d :: r) l = true) : ∃ c j p t, l = some (.Constant c j p) :: t ∧ conB d c = true ∧ chkk r t = true := by
  match l, h with
  | [], h => cases h
  | none :: t, h => cases h
  | some e :: t, h =>
    cases e <;> first | (cases h; done) | skip
    rename_i c j p
    have h : (conB d c && chkk r t) = true := h
    rw [Bool.and_eq_true] at h
    exact ⟨c, j, p, t, rfl, h.1, h.2⟩
theorem chkk_nil {l : List (Option Expr)} (h : chkk [] l = true) : l = [] := by
  match l, h with
  | [], h => rfl
  | _ :: _, h => cases h
theorem chkk_keys : ∀ (ks : List D) (l : List (Option Expr)), chkk ks l = true → l.all (·.isSome) = true ∧ ks.length = l.length
  | [], l, h => by rw [chkk_nil h]; exact ⟨rfl, rfl⟩
  | d :: r, l, h => by
    obtain ⟨c, j, p, t, e, h1, h2⟩ := chkk_cons h
    obtain ⟨h3, h4⟩ := chkk_keys r t h2
    rw [e]
    exact ⟨by rw [List.all_cons, h3]; rfl, by rw [List.length_cons, List.length_cons, h4]⟩
theorem con_key {d : D} {c : Const} {j : Nat} {p : Pos} (h : conB d c = true) (hk : kOk 0 d = true) : PE X (.Constant c j p) (tC (keyV d)) := by
  cases d <;> first | (cases hk; done) | skip
  · cases c <;> first | (cases h; done) | skip
    have := of_decide_eq_true h
    subst this
    exact pe_int
  · cases c <;> first | (cases h; done) | skip
    have := of_decide_eq_true h
    subst this
    exact pe_str
theorem prs_cons {T : Tab} {d : D} {ks : List D} {e : E} {es : Es} (hk : kOk 0 d = true) : prs X W T (d :: ks) (.cons e es) = (tC (keyV d), GE X W (ev T e)) :: prs X W T ks es := by
  cases d <;> first | (cases hk; done) | rfl
theorem keyV_is {d : D} (hk : kOk 0 d = true) : ∃ k : Key, d = keyD k ∧ keyV d = kV k := by
  cases d <;> first | (cases hk; done) | skip
  · exact ⟨.inl _, rfl, rfl⟩
  · rename_i s
    exact ⟨.inr (mkS s), rfl, rfl⟩
theorem keys_of : ∀ (ks : List D), ks.all (kOk 0) = true → ∃ kk : List Key, ks = kk.map keyD ∧ ks.map keyV = kk.map kV
  | [], _ => ⟨[], rfl, rfl⟩
  | d :: r, h => by
    rw [List.all_cons, Bool.and_eq_true] at h
    obtain ⟨kk, h1, h2⟩ := keys_of r h.2
    obtain ⟨k, h3, h4⟩ := keyV_is h.1
    exact ⟨k :: kk, by rw [List.map_cons, ← h1, ← h3], by rw [List.map_cons, List.map_cons, ← h2, h4]⟩
theorem zip_key : ∀ (kk : List Key) (vs : List V), (kk.map kV).zip vs = (kk.zip vs).map (fun kv => (kV kv.1, kv.2))
  | [], vs => rfl
  | k :: r, [] => rfl
  | k :: r, v :: vs => by simp only [List.map_cons, List.zip_cons_cons, zip_key r vs]
theorem atoms_repL {K : Fr} {H H' : Hp} {Z' : Addr → Prop} {FP : Nat → List Addr} : ∀ {as : List (Mo × D)} {G : List Addr} {vs : List V}, ResL K H H' Z' FP as G vs → (as.all fun a => a.2.atom) = true → RepL K H' Z' (as.map (·.2)) vs
  | [], _, _, h, _ => by simp only [ResL] at h; simp only [List.map_nil, RepL]; exact h.2
  | (m, d) :: r, _, _, h, ha => by
    obtain ⟨v, vs', G2, e, h1, h2⟩ := h.cons
    rw [List.all_cons, Bool.and_eq_true] at ha
    simp only [List.map_cons, RepL]
    exact ⟨v, vs', e, h1.atom ha.1, atoms_repL h2 ha.2⟩
theorem zip_fst : ∀ (kk : List Key) (vs : List V), kk.length = vs.length → ((kk.zip vs).map fun p => keyD p.1) = kk.map keyD ∧ (kk.zip vs).map (·.2) = vs
  | [], [], _ => ⟨rfl, rfl⟩
  | k :: r, v :: vs, h => by
    obtain ⟨h1, h2⟩ := zip_fst r vs (by simpa using h)
    simp only [List.zip_cons_cons, List.map_cons, h1, h2]
    exact ⟨trivial, trivial⟩
  | [], _ :: _, h => by cases h
  | _ :: _, [], h => by cases h
theorem snd_dic {T : Tab} {kd : Nat} {ks : List D} {vs : Es} {l : List (Option Expr)} {r : List Expr} {p : Pos} (hk : chkk ks l = true) (P : PPs X p l r (prs X W T ks vs)) (hl : l.length = r.length) (h15 : l.length ≤ 15) (h0 : ks.all (kOk 0) = true) (hes : esLen vs = ks.length) (hkd : kd = 0 ∨ (kd = 2 ∧ ks = [])) :
    PE X (.Dict l r p) (GE X W (ev T (.dic kd ks vs))) := by
  cases ks with
  | nil =>
    have el := chkk_nil hk
    subst el
    have er : r = [] := List.length_eq_zero_iff.mp hl.symm
    subst er
    cases vs with
    | cons e es => cases hes
    | nil =>
      have ee : ∀ ρ, ev T (.dic kd [] .nil) ρ = optR (dicG kd [] []) := fun ρ => rfl
      rcases hkd with hkd | ⟨hkd, _⟩
      · subst hkd
        refine PE.imp pe_dnewK fun σ H Q ⟨ρ, Z, FP, e, o⟩ q hq => ?_
        rw [ee] at o
        have o : Out X W H Z σ (QE X H FP Q) (.ok (.ow, .dic 0 [] [])) := o
        refine out_ok o (.new hq) _ ⟨[q], ?_, fun a ha => ?_⟩
        · simp only [Own, DcOwn, OwnL]
          exact ⟨q, [], [], rfl, rfl, ⟨[], upd_same, rfl, rfl⟩, fun z => e.zd q z hq, by simp, rfl, rfl⟩
        · have : a = q := by simpa using ha
          rw [this]; exact hq
      · subst hkd
        refine PE.imp pe_dnewN fun σ H Q ⟨ρ, Z, FP, e, o⟩ q hq => ?_
        rw [ee] at o
        have o : Out X W H Z σ (QE X H FP Q) (.ok (.ow, .dic 2 [] [])) := o
        refine out_ok o (.new hq) _ ⟨[q], ?_, fun a ha => ?_⟩
        · simp only [Own, DcOwn, OwnL]
          exact ⟨q, [], [], rfl, rfl, ⟨[], upd_same, rfl, rfl⟩, fun z => e.zd q z hq, by simp, rfl, rfl⟩
        · have : a = q := by simpa using ha
          rw [this]; exact hq
  | cons d ds =>
    have hkd : kd = 0 := by
      rcases hkd with h | ⟨_, h⟩
      · exact h
      · cases h
    subst hkd
    obtain ⟨hs, hkl⟩ := chkk_keys _ _ hk
    have hne : l ≠ [] := fun z => by rw [z] at hkl; cases hkl
    refine PE.imp (pe_disp P hs hl hne h15) fun σ H Q ⟨ρ, Z, FP, e, o⟩ q hq => ?_
    have xq : Ext H Z (upd H q (.dK [])) Z := .new hq
    have o1 := Out.step (show Out X W H Z σ (QE X H FP Q) (evs T vs ρ >>= fun bs => optR (dicG 0 (d :: ds) bs)) from o) xq
    refine prs_use vs (d :: ds) ρ σ _ Z FP (fun bs => optR (dicG 0 (d :: ds) bs)) _ h0 (xq.env e) hes o1 fun as G vs' H1 Z1 ea x1 r1 o2 => ?_
    have o3 : Out X W H Z σ (QE X H FP Q) (optR (dicG 0 (d :: ds) as)) := by
      have : Out X W H Z σ (QE X H FP Q) (evs T vs ρ >>= fun bs => optR (dicG 0 (d :: ds) bs)) := o
      rw [ea] at this
      exact this
    obtain ⟨c2, hc, o4⟩ := out_opt o3
    unfold dicG at hc
    split at hc
    · rename_i hh
      cases hc
      obtain ⟨_, hat, hlen, _⟩ := hh
      have hq1 : H1 q = some (.dK []) := x1.same _ _ upd_same
      obtain ⟨kk, k1, k2⟩ := keys_of (d :: ds) h0
      have hlv : kk.length = vs'.length := by
        have h1 := congrArg List.length k1
        rw [List.length_map] at h1
        rw [r1.length, ← hlen, h1]
      obtain ⟨z1, z2⟩ := zip_fst kk vs' hlv
      have rl := atoms_repL r1 hat
      rw [← z2] at rl
      have hat2 : (as.map (·.2)).all D.atom = true := by rw [List.all_map]; exact hat
      obtain ⟨p1, p2, p3⟩ := dputs_merge (kk.zip vs') (as.map (·.2)) [] [] rl (by simp [RepL]) hat2 rfl
      rw [z1, ← k1] at p1 p2 p3
      refine ⟨hq1, kk.zip vs', by rw [k2, zip_key], ?_, ?_⟩
      · have h2 := chkk_keys _ _ hk
        have h3 := congrArg List.length k1
        rw [List.length_map] at h3
        rw [List.length_zip, ← hlv]
        simp only [Nat.min_self]
        rw [← h3, hkl]
        exact h15
      · have nz : ¬ Z1 q := fun z => by
          rcases x1.zn q z with w | w
          · exact e.zd q w hq
          · rw [upd_same] at w; cases w.1
        have kp : Kp X.fr Z1 H1 (upd H1 q (.dK (mergeK [] (kk.zip vs')))) := Kp.upd nz (Cont.noTup hq1 (.inr (.inl ⟨_, rfl⟩)))
        have xt : Ext H Z (upd H1 q (.dK (mergeK [] (kk.zip vs')))) Z1 := by
          refine ⟨fun b u hb => ?_, fun a h => x1.z a h, fun a h => ?_⟩
          · rw [upd_ne (ne_of_none hb hq)]
            exact (xq.trans x1).same b u hb
          · refine ((xq.trans x1).zn a h).imp id fun w => ⟨w.1, fun z => w.2 ?_⟩
            by_cases ea : a = q
            · subst ea; rw [upd_same] at z; cases z
            · rw [upd_ne ea] at z; exact z
        refine out_ok o4 xt _ ⟨[q], ?_, fun a ha => ?_⟩
        · simp only [Own, DcOwn]
          exact ⟨q, _, [], rfl, rfl, ⟨_, upd_same, p1, rfl⟩, nz, by simp, ownL_atoms p3 (RepL.kp kp (fun _ h => h) _ _ p2)⟩
        · have : a = q := by simpa using ha
          rw [this]; exact hq
    · cases hc
/-- {k: v} -/
theorem snd_dic1 {T : Tab} {a b : E} {x y : Expr} {p : Pos} (ha : PE X x (GE X W (ev T a))) (hb : PE X y (GE X W (ev T b))) : PE X (.Dict [some x] [y] p) (GE X W (ev T (.dic1 a b))) := by
  refine PE.imp (pe_disp (pps_cons ha hb pps_nil) rfl rfl (by simp) (by simp)) fun σ H Q ⟨ρ, Z, FP, e, o⟩ q hq => ?_
  have xq : Ext H Z (upd H q (.dK [])) Z := .new hq
  have o : Out X W H Z σ (QE X H FP Q) (ev T a ρ >>= fun u => ev T b ρ >>= fun w => optR (dicG 0 [u.2] [w])) := o
  refine GE.bind' (xq.env e) (Out.step o xq) fun u v H1 Z1 ea x1 r1 e1 o2 => ?_
  refine GE.bind' e1 (Out.step o2 x1) fun w v2 H2 Z2 eb x2 r2 e2 o3 => ?_
  have o3 : Out X W H Z σ (QE X H FP Q) (optR (dicG 0 [u.2] [w])) := by
    rw [ea] at o
    replace o : Out X W H Z σ (QE X H FP Q) (ev T b ρ >>= fun w => optR (dicG 0 [u.2] [w])) := o
    rw [eb] at o
    exact o
  obtain ⟨c2, hc, o4⟩ := out_opt o3
  unfold dicG at hc
  split at hc
  · rename_i hh
    cases hc
    obtain ⟨hk, hat, -, -⟩ := hh
    have hk : kOk 0 u.2 = true := by simpa using hk
    have hat : w.2.atom = true := by simpa using hat
    obtain ⟨k, hk⟩ := Option.isSome_iff_exists.mp (show u.2.key.isSome = true from hk)
    obtain ⟨e3, e4⟩ := key_rep hk r1.read
    have hq2 : H2 q = some (.dK []) := x2.same _ _ (x1.same _ _ upd_same)
    have rl : RepL X.fr H2 Z2 [w.2] ([(k, v2)].map (·.2)) := by
      simp only [List.map_cons, List.map_nil, RepL]
      exact ⟨v2, [], rfl, r2.atom hat, rfl⟩
    obtain ⟨p1, p2, p3⟩ := dputs_merge [(k, v2)] [w.2] [] [] rl (by simp [RepL]) (by simp [hat]) rfl
    have p1 := p1
    simp only [List.map_cons, List.map_nil] at p1 p2 p3
    rw [← e4] at p1 p2 p3
    subst e3
    refine ⟨hq2, [(k, v2)], rfl, by simp, ?_⟩
    have x12 := x1.trans x2
    have nz : ¬ Z2 q := fun z => by
      rcases x12.zn q z with w | w
      · exact e.zd q w hq
      · rw [upd_same] at w; cases w.1
    have kp : Kp X.fr Z2 H2 (upd H2 q (.dK (mergeK [] [(k, v2)]))) := Kp.upd nz (Cont.noTup hq2 (.inr (.inl ⟨_, rfl⟩)))
    have xt : Ext H Z (upd H2 q (.dK (mergeK [] [(k, v2)]))) Z2 := by
      refine ⟨fun b u hb => ?_, fun a h => x12.z a h, fun a h => ?_⟩
      · rw [upd_ne (ne_of_none hb hq)]
        exact (xq.trans x12).same b u hb
      · refine ((xq.trans x12).zn a h).imp id fun w => ⟨w.1, fun z => w.2 ?_⟩
        by_cases ea : a = q
        · subst ea; rw [upd_same] at z; cases z
        · rw [upd_ne ea] at z; exact z
    refine out_ok o4 xt _ ⟨[q], ?_, fun a ha => ?_⟩
    · simp only [Own, DcOwn, List.map_cons, List.map_nil]
      exact ⟨q, _, [], rfl, rfl, ⟨_, upd_same, p1, rfl⟩, nz, by simp, ownL_atoms p3 (RepL.kp kp (fun _ h => h) _ _ p2)⟩
    · have : a = q := by simpa using ha
      rw [this]; exact hq
  · cases hc
end
end Pi

set_option Elab.async false
set_option linter.all false
set_option maxRecDepth 100000
set_option maxHeartbeats 4000000
/-! PiDc: a comprehension of a dict, of any kind of keys that this layer knows. -/
namespace Pi
open PySem PySem.Spec PyProof.Rows L2
/-- an entry is laid at D: what is asked, and what the heap is then -/
abbrev TPut := Addr → V → V → Hp → (Hp → Prop) → Prop
/-- the dict at D takes it, in any context of this program -/
def PutOk (K : Fr) (o0 : Addr → HO) (dp : TPut) : Prop :=
  (∀ (X : Cx) (pins : List (Addr × Obj)) (σ : Pi.St) (H : Hp) (s : Shared), X.fr = K → Inv X pins σ H s → ∀ D, s.heap.objs.size = D → ObjOk X.prog X.w (upd H D (o0 D)) (s.heap.push { cls := .type "dict", data := .dict #[] }) D (o0 D)) ∧
  ∀ (X : Cx) (pins : List (Addr × Obj)) (σ : Pi.St) (H : Hp) (s : Shared) (D : Addr) (y z : V) (u r : Value) (E : Value → Shared → Prop) (Q : Hp → Prop), X.fr = K → Inv X pins σ H s → RelV y u → RelV z r → dp D y z H Q →
    wpAny (model X.prog X.w) X.A (dictSet D u r) (fun _ s' => ∃ H', Inv X pins σ H' s' ∧ Q H') E s
def dp2 (K : Fr) : TPut := fun D y z H Q => ∃ kvs k, y = nkV k ∧ H D = some (ND K D kvs) ∧ kvs.length < sizeLine ∧ Q (upd H D (ND K D (putK kvs k z)))
theorem putOk2 {K : Fr} : PutOk K (fun D => ND K D []) (dp2 K) := by
  refine ⟨fun X pins σ H s e I D hD => ?_, fun X pins σ H s D y z u r E Q e I ry rz h => ?_⟩
  · subst e
    rw [← hD]
    exact nd_new (X := X) (vs := []) (Nat.zero_le _) (beq_eq_false_iff_ne.mpr (Ne.symm (Nat.ne_of_lt I.big))) .nil (Heap.DictOf.new s.heap)
  · subst e
    obtain ⟨kvs, k, e, hD, hz, q⟩ := h
    subst e
    obtain ⟨z0, hd, vs, rel, dd⟩ := nd_of I hD
    have hzv : vs.length ≤ sizeLine := by rw [← rel.length]; exact z0
    have hl : (putK kvs k z).length ≤ sizeLine := by have := length_putK kvs k z; omega
    refine wpAny_dictSet_pairs (hsz := hzv) (nkV_is ry) dd fun h' dd' hs => ⟨_, ?_, q⟩
    have he : ∃ q, h'.get? D = some q := let ⟨q, _, _, hq, _⟩ := dd'; ⟨q, hq⟩
    exact d_write I (by rw [hD]; exact True.intro) hs he (nd_new hl hd (rel.put k rz) dd')
section
variable {X : Cx}
def tDcG (o0 : Addr → HO) (dp : TPut) (wi : TI) (g : TG) (tt : TT) (tk tv : TE) (vs : List Nat) : TE := fun σ H Q => wi σ H fun J H1 => ∀ D, H1 D = none → ∃ W : Nat → Nat → Hp → Prop, (∃ m, W 0 m (upd H1 D (o0 D))) ∧ ∀ i m H, W i m H →
  (J.stop i H ∧ Q (.ref D) H) ∨ (J.go i H ∧ ∃ Nx : Hp → Prop, (∀ H', Nx H' → ∃ m', m' < m ∧ W (i + 1) m' H') ∧ ∀ x H', J.yld i H x H' → g x (L2.wipe σ vs) H' fun σ2 H2 => L2.wipe σ2 vs = L2.wipe σ vs ∧ tt σ2 H2 fun b H3 =>
    if b = true then tk σ2 H3 fun y H4 => tv σ2 H4 fun z H5 => dp D y z H5 Nx else Nx H3)
/-- the block is opened, the loop is walked, each turn lays one entry -/
theorem dcG_core {o0 : Addr → HO} {dp : TPut} {pins : List (Addr × Obj)} {s : Shared} {σ : Pi.St} {H : Hp} {Q : VK} {kx vx tg iter : Expr} {ifs : List Expr} {scope : Scope} {own : List (Str × Nat)} {pos pos' : Pos} {wi : TI} {g : TG} {tt : TT} {tk tv : TE} {use : Option (Value → Sem Unit)} {Qf : Value → Shared → Prop}
    (po : PutOk X.fr o0 dp) (hc : X.calm = true) (hN : X.N.Nodup) (I : Inv X pins σ H s) (hi : PI X tg iter wi) (ok : BlkOk X.N X.env.scope scope own)
    (hg : ∀ (s : Shared) (H : Hp) (C : Addr) (cl : List (Str × Addr)) (fp : List Addr), PG (X.blk s H scope (compEnvC scope cl C X.env) fp) tg g) (ht : ∀ (s : Shared) (H : Hp) (C : Addr) (cl : List (Str × Addr)) (fp : List Addr), PTs (X.blk s H scope (compEnvC scope cl C X.env) fp) ifs tt)
    (hk : ∀ (s : Shared) (H : Hp) (C : Addr) (cl : List (Str × Addr)) (fp : List Addr), PE (X.blk s H scope (compEnvC scope cl C X.env) fp) kx tk)
    (he : ∀ (s : Shared) (H : Hp) (C : Addr) (cl : List (Str × Addr)) (fp : List Addr), PE (X.blk s H scope (compEnvC scope cl C X.env) fp) vx tv) (hs : ∀ x, foldedSetIterable iter X.env x = pure x)
    (h : tDcG o0 dp wi g tt tk tv (own.map (·.2)) σ H Q)
    (hRR : ∀ D C s' m H', Inv X pins σ H' s' → Q (.ref D) H' → s'.heap.Ns C m → FpOk X pins H' C → compPost (model X.prog X.w) X.A X.xe use Qf (.ref D) C (.ok .next) s') :
    wpAny (model X.prog X.w) X.A (comprehension (.DictComp kx vx [⟨tg, iter, ifs, 0⟩] scope pos) scope X.env pos' newDict false (eval iter X.env) use) Qf X.xe s := by
  have hfree : ∀ y ∈ scope.names, y.2 = .free → ∃ c, X.env.cells.lookup y.1 = some c := fun y hy e => by
    rcases ok.free y hy e with k | k
    · exact I.ok.has _ (.inl k)
    · exact I.ok.has _ (.inr k)
  refine wpAny_comprehension_free (use := use) rfl hs (closure_ok hfree) ok.kind (fun y hy e => by rw [ok.uniq y hy, e])
    (thn (hi.run pins s σ H _ I h) fun xv s1 hx => thn hx fun itv s2 h2 => ?_)
  obtain ⟨it, fp, tn, J, H2, e, I2, T, st2, f2, q⟩ := h2
  subst e
  refine wpAny_newObj_type (newEnv_comp ?_)
  generalize hD : s2.heap.objs.size = D
  obtain ⟨W, ⟨m0, w0⟩, turn⟩ := q D (I2.hok.fresh (Nat.le_of_eq hD))
  have hpush := po.1 X pins σ H2 s2 rfl I2 D hD
  generalize hs3 : ({ s2 with heap := s2.heap.push { cls := .type "dict", data := .dict #[] } } : Shared) = s3
  have I3 : Inv X pins σ (upd H2 D (o0 D)) s3 := by
    rw [← hs3]
    exact I2.laid (t' := s2.toks) (fun b o e => Heap.get?_push_of_some _ e) (Nat.le_of_eq hD) hpush
  have h3 : s3.heap = s2.heap.push { cls := .type "dict", data := .dict #[] } := by rw [← hs3]
  generalize hH3 : upd H2 D (o0 D) = H3 at I3 w0
  have f3 : ∀ b ∈ fp, FpOk X pins H3 b ∧ b < s3.heap.objs.size := fun b hb => by
    obtain ⟨o, eo, _⟩ := T.obj _ _ st2 b hb
    have hlt := Heap.lt_size eo
    refine ⟨⟨?_, (f2 b hb).2⟩, by rw [h3, Heap.size_push]; exact Nat.lt_succ_of_lt hlt⟩
    rw [← hH3, upd_ne (by rw [← hD]; exact Nat.ne_of_lt hlt)]
    exact (f2 b hb).1
  have st3 : tn 0 s3.heap := T.keep _ _ _ st2 fun b _ o e => by rw [h3]; exact Heap.get?_push_of_some _ e
  have I4 := block_start I3 ok hN f3
  show codeAny _ _ (.compStart (.DictComp kx vx [⟨tg, iter, ifs, 0⟩] scope pos) 0 (.ref it) (.ref D) (compEnvC scope (cellsFrom (s3.heap.objs.size + 1) scope.names (cloFrom X.env.cells scope.names [])) s3.heap.objs.size X.env)) (compPost (model X.prog X.w) X.A X.xe use Qf (.ref D) s3.heap.objs.size) { s3 with heap := pushCells (s3.heap.push { cls := .type "dict", data := .dict #[] }) scope.names }
  generalize hcl : cellsFrom (s3.heap.objs.size + 1) scope.names (cloFrom X.env.cells scope.names []) = cl at I4 ⊢
  have pg := hg s3 H3 s3.heap.objs.size cl fp
  have pt := ht s3 H3 s3.heap.objs.size cl fp
  have pk := hk s3 H3 s3.heap.objs.size cl fp
  have pe := he s3 H3 s3.heap.objs.size cl fp
  generalize hce : compEnvC scope cl s3.heap.objs.size X.env = ce at I4 pg pt pk pe ⊢
  have cL : ce.locals = s3.heap.objs.size := by subst hce; rfl
  generalize hs4 : ({ s3 with heap := pushCells (s3.heap.push { cls := .type "dict", data := .dict #[] }) scope.names } : Shared) = s4 at I4 ⊢
  have st4 : tn 0 s4.heap := T.keep _ _ _ st3 fun b _ o e => by rw [← hs4]; exact pushCells_keeps _ _ _ _ (Heap.get?_push_of_some _ e)
  -- the walk's own objects stay out of the heap that is told
  have stat : ∀ {σ' : Pi.St} {H' : Hp} {s' : Shared}, Inv (X.blk s3 H3 scope ce fp) [] σ' H' s' → (∀ b ∈ fp, H' b = none) → ∀ b ∈ fp, FpOk (X.blk s3 H3 scope ce fp) [] H' b := fun {σ' H' s'} I' hn b hb =>
    ⟨hn b hb, (I'.ok.exf b hb).1, I'.ok.exfs b hb, .inl hb, fun x c e => (I'.ok.exf b hb).2 x c e, fun p hp => absurd (show p ∈ ([] : List (Addr × Obj)) ++ [] from hp) (by simp)⟩
  have ret : ∀ {H5 : Hp} {s6 : Shared}, Inv (X.blk s3 H3 scope ce fp) [] (L2.wipe σ (own.map (·.2))) H5 s6 → Q (.ref D) H5 → compPost (model X.prog X.w) X.A X.xe use Qf (.ref D) s3.heap.objs.size (.ok .next) s6 := fun {H5 s6} I6 qq => by
    have I7 : Inv X pins σ H5 s6 := I3.call' (ch := fp) I6.os I6.base I6.hok I6.bare fun b hb => ⟨(f3 b hb).1.2.2.2.1, (f3 b hb).1.2.1, (f3 b hb).1.2.2.2.2.1, (f3 b hb).1.2.2.2.2.2⟩
    have nC : H5 s3.heap.objs.size = none := by
      have z : H5 ce.locals = none := I6.free
      rw [cL] at z
      exact z
    obtain ⟨m, hn, _⟩ := I6.loc
    have hn : s6.heap.Ns ce.locals m := hn
    rw [cL] at hn
    exact hRR D s3.heap.objs.size s6 m H5 I7 qq hn (I3.fpOk (Nat.le_refl _) nC)
  have loop : codeAny (model X.prog X.w) X.A (.compLoop (.DictComp kx vx [⟨tg, iter, ifs, 0⟩] scope pos) 0 (.ref it) (.ref D) ce) (compPost (model X.prog X.w) X.A X.xe use Qf (.ref D) s3.heap.objs.size) s4 := by
    refine compLoop_anyD (fun n s' => ∃ i H', Inv (X.blk s3 H3 scope ce fp) [] (L2.wipe σ (own.map (·.2))) H' s' ∧ tn i s'.heap ∧ (∀ b ∈ fp, H' b = none) ∧ W i n H') ?_ m0 ⟨0, H3, I4, st4, fun b hb => (f3 b hb).1.1, w0⟩
    rintro n s5 ⟨i, H5, I5, st5, n5, w5⟩
    rcases turn i n H5 w5 with ⟨stop, qq⟩ | ⟨go, Nx, hNx, step⟩
    · refine thnF (T.done (X.blk s3 H3 scope ce fp) rfl rfl rfl hc i [] s5 _ H5 (fun _ _ => False) I5 (stat I5 n5) st5 stop) fun r s6 ⟨hr, I6⟩ => ?_
      subst hr
      exact ret I6 qq
    · refine thnF (T.item (X.blk s3 H3 scope ce fp) rfl rfl rfl hc i [] s5 _ H5 (fun _ _ => False) I5 (stat I5 n5) st5 go) fun r s6 ⟨u, hr, h6⟩ => ?_
      subst hr
      refine thnF h6 fun _ s7 ⟨x, H7, I7, r7, y7, st7, n7⟩ => ?_
      refine thnF (pg.run _ s7 _ H7 x u _ (I7.pinned (stat I7 n7) (T.obj _ _ st7)) r7 (step x H7 y7)) fun _ s8 ⟨σ8, H8, I8, hw8, q8⟩ => ?_
      refine thnF (pt.run _ s8 σ8 H8 _ I8 q8) fun b s9 ⟨H9, I9, q9⟩ => ?_
      have fin : ∀ {s' : Shared} {H' : Hp}, Inv (X.blk s3 H3 scope ce fp) ([] ++ pinsAt fp s7.heap) σ8 H' s' → Nx H' → ∃ m, m < n ∧ ∃ i H', Inv (X.blk s3 H3 scope ce fp) [] (L2.wipe σ (own.map (·.2))) H' s' ∧ tn i s'.heap ∧ (∀ b ∈ fp, H' b = none) ∧ W i m H' := fun {s' H'} I' nx => by
        obtain ⟨m', hm, w'⟩ := hNx H' nx
        have pin' : ∀ b ∈ fp, ∀ o, s7.heap.get? b = some o → s'.heap.get? b = some o ∧ H' b = none := fun b hb o e =>
          let z := I'.pin (b, o) (List.mem_append_right _ (List.mem_append_right _ (mem_pinsAt hb e)))
          ⟨z.1, z.2.1⟩
        have hl : (L2.wipe σ (own.map (·.2))).length = σ8.length := by rw [← hw8, wipe_length]
        refine ⟨m', hm, i + 1, H', (I'.unpinned (pins := [])).weak hl (fun j v e => ?_), T.keep _ _ _ st7 fun b hb o e => (pin' b hb o e).1, fun b hb => ?_, w'⟩
        · rw [← hw8] at e
          exact (wipe_some e).1
        · obtain ⟨o, e, _⟩ := T.obj _ _ st7 b hb
          exact (pin' b hb o e).2
      cases b with
      | false =>
        simp only [Bool.false_eq_true, if_false] at q9 ⊢
        exact fin I9 q9
      | true =>
        simp only [if_true] at q9 ⊢
        refine thnF (pk.run _ s9 σ8 H9 _ I9 q9) fun z s10 ⟨yk, H10, I10, r10, q10⟩ => ?_
        refine thnF (pe.run _ s10 σ8 H10 _ I10 q10) fun z2 s11 ⟨yv, H11, I11, r11, nx⟩ => ?_
        exact wpAny_mono (po.2 (X.blk s3 H3 scope ce fp) _ _ _ _ D yk yv _ _ _ _ rfl I11 r10 r11 nx) (fun _ s12 ⟨H12, I12, n12⟩ => fin I12 n12) fun _ _ z => z
  exact codeAny_compStart_dict loop (T.self X.A 0 _ _ _ st4 loop)
theorem pe_dcG {o0 : Addr → HO} {dp : TPut} {kx vx tg iter : Expr} {ifs : List Expr} {scope : Scope} {own : List (Str × Nat)} {pos : Pos} {wi : TI} {g : TG} {tt : TT} {tk tv : TE} (po : PutOk X.fr o0 dp) (hc : X.calm = true) (hN : X.N.Nodup) (hi : PI X tg iter wi) (ok : BlkOk X.N X.env.scope scope own)
    (hg : ∀ (s : Shared) (H : Hp) (C : Addr) (cl : List (Str × Addr)) (fp : List Addr), PG (X.blk s H scope (compEnvC scope cl C X.env) fp) tg g) (ht : ∀ (s : Shared) (H : Hp) (C : Addr) (cl : List (Str × Addr)) (fp : List Addr), PTs (X.blk s H scope (compEnvC scope cl C X.env) fp) ifs tt)
    (hk : ∀ (s : Shared) (H : Hp) (C : Addr) (cl : List (Str × Addr)) (fp : List Addr), PE (X.blk s H scope (compEnvC scope cl C X.env) fp) kx tk)
    (he : ∀ (s : Shared) (H : Hp) (C : Addr) (cl : List (Str × Addr)) (fp : List Addr), PE (X.blk s H scope (compEnvC scope cl C X.env) fp) vx tv) (hs : ∀ x, foldedSetIterable iter X.env x = pure x) :
    PE X (.DictComp kx vx [⟨tg, iter, ifs, 0⟩] scope pos) (tDcG o0 dp wi g tt tk tv (own.map (·.2))) := by
  refine ⟨fun pins s σ H Q I h => ?_⟩
  rw [arm_eval_DictComp]
  refine dcG_core po hc hN I hi ok hg ht hk he hs h fun D C s' m H' I' q hn f => ⟨m, hn, fun h'' sb => ?_⟩
  obtain ⟨f0, f1, f2, f3, f4, f5⟩ := f
  exact ⟨.ref D, H', I'.turned (t' := s'.toks) (fun b o hb e => (sb.2 b hb).trans e) f0 f1 f3 f4 f5, rfl, q⟩
/-- name = {..} on one line, the name a local -/
theorem ps_setDcG {o0 : Addr → HO} {dp : TPut} {i : Nat} {y : Str} {py : Pos} {kx vx tg iter : Expr} {ifs : List Expr} {scope : Scope} {own : List (Str × Nat)} {pos spos : Pos} {wi : TI} {g : TG} {tt : TT} {tk tv : TE} (po : PutOk X.fr o0 dp) (hc : X.calm = true) (hN : X.N.Nodup) (hy : X.N[i]? = some y) (hyl : X.env.scope.names.lookup y = some .local)
    (hsw : swapsWith (.DictComp kx vx [⟨tg, iter, ifs, 0⟩] scope pos) (some (.Name y py)) spos.line X.env = pure true) (hi : PI X tg iter wi) (ok : BlkOk X.N X.env.scope scope own)
    (hg : ∀ (s : Shared) (H : Hp) (C : Addr) (cl : List (Str × Addr)) (fp : List Addr), PG (X.blk s H scope (compEnvC scope cl C X.env) fp) tg g) (ht : ∀ (s : Shared) (H : Hp) (C : Addr) (cl : List (Str × Addr)) (fp : List Addr), PTs (X.blk s H scope (compEnvC scope cl C X.env) fp) ifs tt)
    (hk : ∀ (s : Shared) (H : Hp) (C : Addr) (cl : List (Str × Addr)) (fp : List Addr), PE (X.blk s H scope (compEnvC scope cl C X.env) fp) kx tk)
    (he : ∀ (s : Shared) (H : Hp) (C : Addr) (cl : List (Str × Addr)) (fp : List Addr), PE (X.blk s H scope (compEnvC scope cl C X.env) fp) vx tv) (hs : ∀ x, foldedSetIterable iter X.env x = pure x) :
    PS X (.Assign [.Name y py] (.DictComp kx vx [⟨tg, iter, ifs, 0⟩] scope pos) spos) (tAsg (tDcG o0 dp wi g tt tk tv (own.map (·.2))) (gName i)) := by
  refine ⟨fun pins s σ H D I h => ?_⟩
  rw [exec_Assign_Name_used _ _ _ _ hsw]
  refine wpAny_bind (wpAny_standAt (wpAny_bind ?_))
  show wpAny _ X.A (do let _ ← comprehension (.DictComp kx vx [⟨tg, iter, ifs, 0⟩] scope pos) scope X.env (firstIterPos [⟨tg, iter, ifs, 0⟩] pos) newDict false (eval iter X.env) (some (assign (.Name y py) X.env))) _ _ s
  have h : tDcG o0 dp wi g tt tk tv (own.map (·.2)) σ H (fun x H1 => gName i x σ H1 D.nx) := h
  refine wpAny_bind (thn (dcG_core (Qf := fun _ s' => SP X pins D .next s') po hc hN I hi ok hg ht hk he hs h fun L C s' m H' I' q hn f => ?_) fun _ s' hq => wpAny_pure (wpAny_pure hq))
  show wpAny _ _ (assign (.Name y py) X.env (.ref L)) _ _ _
  refine wpAny_assign_Name (store_ok2 (v := V.ref L) I' hN hy (.inl hyl) rfl (fun s2 I2 ⟨a, sb, ha⟩ => ?_) (.inr hyl))
  obtain ⟨f0, f1, f2, f3, f4, f5⟩ := f
  have haC : C ≠ a := by
    rcases ha with z | z
    · rw [z]; exact f1
    · exact fun e => f4 y a z e.symm
  refine ⟨m, hn.sameBut sb haC, fun h3 sb3 => ?_⟩
  exact ⟨_, H', I2.turned (t' := s2.toks) (fun b o hb e => (sb3.2 b hb).trans e) f0 f1 f3 f4 f5, q⟩
variable {W : WX} {fi : Rho → Res (List D)} {fc : Rho → Res Bool} {fk fx : Rho → Res (Mo × D)} {tg : Tg} {vs : List Nat}
theorem dcL_step {F : D → Option (Option (D × D))} {d : D} {r : List D} {acc out : List D × List D} (h : dcL F (d :: r) acc = some out) : (∃ k x, F d = some (some (k, x)) ∧ acc.1.length < sizeLine ∧ dcL F r (dput acc.1 acc.2 k x) = some out) ∨ (F d = some none ∧ dcL F r acc = some out) := by
  unfold dcL at h
  split at h
  · rename_i p hp
    split at h
    · rename_i hl
      exact .inl ⟨p.1, p.2, hp, hl, h⟩
    · cases h
  · rename_i hp
    exact .inr ⟨hp, h⟩
  · cases h
theorem dcStep_some {o : Option Rho} {z : Option (D × D)} (h : dcStep o fc fk fx = some z) : ∃ ρ2, o = some ρ2 ∧ ((fc ρ2 = .ok true ∧ ∃ k x, fk ρ2 = .ok k ∧ fx ρ2 = .ok x ∧ k.2.nkey.isSome = true ∧ x.2.atom = true ∧ z = some (k.2, x.2)) ∨ (fc ρ2 = .ok false ∧ z = none)) := by
  unfold dcStep at h
  split at h
  · cases h
  · rename_i ρ2
    refine ⟨ρ2, rfl, ?_⟩
    split at h
    · rename_i hc
      split at h
      · rename_i k hk
        split at h
        · rename_i x hx
          split at h <;> cases h
          rename_i hm
          exact .inl ⟨hc, k, x, hk, hx, hm.1, hm.2, rfl⟩
        · cases h
      · cases h
    · rename_i hc
      cases h
      exact .inr ⟨hc, rfl⟩
    · cases h
theorem dc_itG {o0 : Addr → HO} {dp : TPut} {J : L2.It} {n : Nat} {G : Hp → Prop} {Y : Nat → Hp → V → Hp → Prop} (w : Walk J n G Y) {g : TG} {tt : TT} {tk tv : TE} {vs : List Nat} {σ : Pi.St} {H1 : Hp} {D : Addr} {Qd : Hp → Prop} (Pv : Nat → Hp → Prop) (h0 : Pv 0 (upd H1 D (o0 D))) (hG : ∀ i H, i ≤ n → Pv i H → G H)
    (hs : ∀ i x H H', i < n → Pv i H → Y i H x H' → g x (L2.wipe σ vs) H' fun σ2 H2 => L2.wipe σ2 vs = L2.wipe σ vs ∧ tt σ2 H2 fun b H3 =>
      if b = true then tk σ2 H3 fun y H4 => tv σ2 H4 fun z H5 => dp D y z H5 (Pv (i + 1)) else Pv (i + 1) H3) (hd : ∀ H, Pv n H → Qd H) :
    ∃ W : Nat → Nat → Hp → Prop, (∃ m, W 0 m (upd H1 D (o0 D))) ∧ ∀ i m H, W i m H →
      (J.stop i H ∧ Qd H) ∨ (J.go i H ∧ ∃ Nx : Hp → Prop, (∀ H', Nx H' → ∃ m', m' < m ∧ W (i + 1) m' H') ∧ ∀ x H', J.yld i H x H' → g x (L2.wipe σ vs) H' fun σ2 H2 => L2.wipe σ2 vs = L2.wipe σ vs ∧ tt σ2 H2 fun b H3 =>
        if b = true then tk σ2 H3 fun y H4 => tv σ2 H4 fun z H5 => dp D y z H5 Nx else Nx H3) := by
  refine ⟨fun i m H => m = n - i ∧ i ≤ n ∧ Pv i H, ⟨n, by simp, Nat.zero_le _, h0⟩, ?_⟩
  rintro i m H ⟨rfl, hi, p⟩
  have q := hG i H hi p
  by_cases hlt : i < n
  · exact .inr ⟨w.goes i H hlt q, Pv (i + 1), fun H' p' => ⟨n - (i + 1), by omega, rfl, hlt, p'⟩, fun x H' y => hs i x H H' hlt p (w.yields i H x H' hlt q y)⟩
  · have e : i = n := by omega
    subst e
    exact .inl ⟨w.stops H q, hd H p⟩
theorem dc_use (hsl : ∀ i ∈ slots tg, i ∈ vs) (σ : Pi.St) (H : Hp) (Q : VK)
    (h : GE X W (fun ρ => fi ρ >>= fun l => dcR (fun d => dcStep (bindT tg d (wipeR ρ vs)) fc fk fx) l) σ H Q) : tDcG (fun a => ND X.fr a []) (dp2 X.fr) (GI X W fi) (gOf X.K tg) (GT X WF fc) (GE X WF fk) (GE X WF fx) vs σ H Q := by
  obtain ⟨ρ, Z, FP, e, o⟩ := h
  refine ⟨ρ, Z, FP, e, Out.bind' o fun l H1 Z1 _ x1 o1 J wk Dd hD => ?_⟩
  have e1 := x1.env e
  unfold dcR at o1
  generalize hF : (fun d => dcStep (bindT tg d (wipeR ρ vs)) fc fk fx) = F at o1
  cases hL : dcL F l ([], []) with
  | none => rw [hL] at o1; exact o1.elim
  | some out =>
    rw [hL] at o1
    have nz1 : ¬ Z1 Dd := fun z => e1.zd Dd z hD
    refine dc_itG (o0 := fun a => ND X.fr a []) wk (fun i Hh => ∃ Zc kvs ws, Ext H1 Z1 Hh Zc ∧ ¬ Zc Dd ∧ Hh Dd = some (ND X.fr Dd kvs) ∧ RepL X.fr Hh Zc ws (kvs.map (·.2)) ∧ ws.all D.atom = true ∧ dcL F (l.drop i) (kvs.map (fun p => nkD p.1), ws) = some out)
      ⟨Z1, [], [], .new hD, nz1, upd_same, by simp [RepL], rfl, by simpa using hL⟩ (fun i Hh _ ⟨Zc, kvs, ws, x, _⟩ => x.kp) ?_ ?_
    · rintro i x Hh H' hi ⟨Zc, kvs, ws, xc, nz, hkv, rws, aws, hrest⟩ ⟨d, hd, rd, hH'⟩
      have xh : Ext Hh Zc H' Zc := by
        rcases hH' with eh | ⟨T, oo, hT, eh⟩
        · rw [eh]; exact .refl
        · rw [eh]; exact .new hT
      have e2 := xh.env (xc.env e1)
      obtain ⟨FPw, ew⟩ := e2.wipe vs
      have hdrop : l.drop i = d :: l.drop (i + 1) := by
        rw [List.drop_eq_getElem_cons hi]
        congr 1
        rw [List.getElem?_eq_getElem hi] at hd
        exact Option.some.inj hd
      rw [hdrop] at hrest
      have hFd : ∃ z, F d = some z := by
        rcases dcL_step hrest with ⟨k, y, h1, _⟩ | ⟨h1, _⟩
        · exact ⟨_, h1⟩
        · exact ⟨_, h1⟩
      obtain ⟨z, hz1⟩ := hFd
      have hz2 : dcStep (bindT tg d (wipeR ρ vs)) fc fk fx = some z := by rw [← hF] at hz1; exact hz1
      obtain ⟨ρ2, hb, hcase⟩ := dcStep_some hz2
      have rd2 : Rep X.fr H' Zc d x := Rep.kp .refl xc.z _ _ rd
      refine gOf_use tg d x (wipeR ρ vs) ρ2 (L2.wipe σ vs) FPw _ ew rd2 hb fun σ2 FP2 e3 _ l2 s2 => ?_
      have hl2 : σ2.length = σ.length := by rw [l2, wipe_length]
      refine ⟨wipe_same hl2 fun j hj => s2 j fun hs => hj (hsl j hs), ?_⟩
      rcases hcase with ⟨hc, ky, vy, hk, hx, hn, hat, ez⟩ | ⟨hc, ez⟩
      · subst ez
        refine ⟨ρ2, Zc, FP2, e3, out_of_ok hc fun H3 Z3 x3 => ?_⟩
        simp only [if_true]
        refine ⟨ρ2, Z3, FP2, x3.env e3, out_of_ok hk fun H4 Z4 x4 kv r4 => ?_⟩
        refine ⟨ρ2, Z4, FP2, x4.env (x3.env e3), out_of_ok hx fun H5 Z5 x5 v r5 => ?_⟩
        have xa : Ext Hh Zc H5 Z5 := xh.trans (x3.trans (x4.trans x5))
        have hkv5 : H5 Dd = some (ND X.fr Dd kvs) := xa.same _ _ hkv
        rcases dcL_step hrest with ⟨k', y', h1, hlt, h2⟩ | ⟨h1, h2⟩
        · rw [hz1] at h1
          cases h1
          obtain ⟨kk, hkk⟩ := Option.isSome_iff_exists.mp hn
          obtain ⟨q1, q2⟩ := nkey_rep hkk ((r4.ext x5).read)
          have nz5 : ¬ Z5 Dd := fun z => by
            rcases xa.zn Dd z with q | q
            · exact nz q
            · rw [hkv] at q; cases q.1
          have rx5 : Rep X.fr H5 Z5 vy.2 v := r5.atom hat
          obtain ⟨p1, p2⟩ := dput_put nkD beqK_nkey kmem_nkey kk rx5 kvs ws (xa.repL rws)
          have kp : Kp X.fr Z5 H5 (upd H5 Dd (ND X.fr Dd (putK kvs kk v))) := Kp.upd nz5 (Cont.noTup hkv5 (.inr (.inr ⟨_, rfl⟩)))
          refine ⟨kvs, kk, q1, hkv5, by simpa using hlt, Z5, putK kvs kk v, _, ?_, nz5, upd_same, RepL.kp kp (fun _ h => h) _ _ p2, dput_atoms aws hat, ?_⟩
          · have xn := xc.trans xa
            refine ⟨fun b u hb => ?_, xn.z, fun a h => (xn.zn a h).imp id fun q => ⟨q.1, fun z => q.2 ?_⟩⟩
            · rw [upd_ne (ne_of_none hb hD)]
              exact xn.same b u hb
            · by_cases ea : a = Dd
              · subst ea; rw [upd_same] at z; cases z
              · rw [upd_ne ea] at z; exact z
          · rw [← p1]
            rw [q2] at h2
            exact h2
        · rw [hz1] at h1; cases h1
      · subst ez
        refine ⟨ρ2, Zc, FP2, e3, out_of_ok hc fun H3 Z3 x3 => ?_⟩
        simp only [Bool.false_eq_true, if_false]
        rcases dcL_step hrest with ⟨k', y', h1, hlt, h2⟩ | ⟨h1, h2⟩
        · rw [hz1] at h1; cases h1
        · have xa : Ext Hh Zc H3 Z3 := xh.trans x3
          refine ⟨Z3, kvs, ws, xc.trans xa, fun z => ?_, xa.same _ _ hkv, xa.repL rws, aws, h2⟩
          rcases xa.zn Dd z with q | q
          · exact nz q
          · rw [hkv] at q; cases q.1
    · rintro Hh ⟨Zc, kvs, ws, xc, nz, hkv, rws, aws, hrest⟩
      rw [List.drop_of_length_le (Nat.le_refl _)] at hrest
      have er : out = (kvs.map (fun p => nkD p.1), ws) := by
        unfold dcL at hrest
        exact (Option.some.inj hrest).symm
      subst er
      have hDn : H Dd = none := x1.same.free hD
      refine out_ok o1 (x1.trans xc) _ ?_
      refine ⟨[Dd], ?_, fun a h => ?_⟩
      · simp only [Own, DcOwn]
        exact ⟨Dd, _, [], rfl, rfl, ⟨kvs, hkv, rfl, rfl⟩, nz, by simp, ownL_atoms aws rws⟩
      · have : a = Dd := by simpa using h
        rw [this]; exact hDn
end
end Pi

set_option Elab.async false
set_option linter.all false
set_option maxRecDepth 100000
set_option maxHeartbeats 4000000
/-! PiSet: sets of ints and texts, made from a list and sorted. -/
namespace Pi
open PySem PySem.Spec PyProof.Rows L2
def keyM (e : Int × Value) : Key := match e.2 with
  | .int k _ => .inl k
  | .str x _ => .inr x
  | _ => .inl 0
section
variable {P : Program} {w : World} {h h' : Heap} {a : Addr} {S : Key → Bool} {n : Nat}
/-- a member's row -/
def GoodM (P : Program) (w : World) (e : Int × Value) : Prop := (mixKind P w).is (keyM e) e.2 = true ∧ e.1 = (mixKind P w).hash (keyM e) ∧ e.2.scannable = true
theorem keyM_is {k : Key} {v : Value} {c : Int} (hk : (mixKind P w).is k v = true) : keyM (c, v) = k ∧ v.scannable = true := by
  rcases keyIs_shape hk with ⟨i, t, rfl, rfl⟩ | ⟨x, t, rfl, rfl⟩ <;> exact ⟨rfl, rfl⟩
/-- the set of ints and texts at a: S its members, n their number; its table rises and can be walked -/
def MSet (P : Program) (w : World) (h : Heap) (a : Addr) (S : Key → Bool) (n : Nat) : Prop :=
  ∃ o es ep t, h.get? a = some o ∧ o.ExactSet ∧ o.data = .set es ep t ∧ (∀ e ∈ es.toList, GoodM P w e) ∧ (es.toList.map keyM).Nodup ∧ (∀ k, S k = true ↔ k ∈ es.toList.map keyM) ∧
    es.size < scanBound ∧ t.fits es.size = true ∧ es.size = n ∧ Ris t.place.toList ∧ (w.params.followText "set-order" = true ∨ t.led = true)
theorem MSet.at (R : MSet P w h a S n) (k : ∀ o, h.get? a = some o → h'.get? a = some o) : MSet P w h' a S n := by
  obtain ⟨o, es, ep, t, ho, r⟩ := R
  exact ⟨o, es, ep, t, k o ho, r⟩
theorem MSet.congr {S' : Key → Bool} {n' : Nat} (R : MSet P w h a S n) (e : ∀ k, S' k = S k) (en : n' = n) : MSet P w h a S' n' := by
  have q : S' = S := funext e
  rw [q, en]; exact R
theorem goodM_elems {l : List (Int × Value)} (g : ∀ e ∈ l, GoodM P w e) : ElemsOf (mixKind P w) l := fun e he => ⟨⟨_, (g e he).1, (g e he).2.1⟩, (g e he).2.2⟩
theorem goodM_is {e : Int × Value} (g : GoodM P w e) (k : Key) : (mixKind P w).is k e.2 = true ↔ keyM e = k := by
  constructor
  · intro z
    exact (keyM_is (c := e.1) z).1
  · intro z
    rw [← z]; exact g.1
theorem goodM_mem {l : List (Int × Value)} (g : ∀ e ∈ l, GoodM P w e) (k : Key) : k ∈ l.map keyM ↔ ∃ e ∈ l, (mixKind P w).is k e.2 = true := by
  rw [List.mem_map]
  constructor
  · rintro ⟨e, he, q⟩
    exact ⟨e, he, (goodM_is (g e he) k).2 q⟩
  · rintro ⟨e, he, q⟩
    exact ⟨e, he, (goodM_is (g e he) k).1 q⟩
theorem MSet.fresh {ho : h.get? a = some { cls := .type "set", dict := none, data := .set #[] 0 (.fresh 0 0 (!w.params.followText "set-order")) }} : MSet P w h a (fun _ => false) 0 :=
  ⟨_, #[], 0, _, ho, ⟨rfl, rfl, rfl⟩, rfl, (fun e he => by simp at he), (by simp), (fun k => by simp), (by decide), (by rfl), rfl, List.Pairwise.nil, by
    show _ ∨ (!w.params.followText "set-order") = true
    cases w.params.followText "set-order"
    · exact .inr rfl
    · exact .inl rfl⟩
end
section
variable {P : Program} {w : World} {A : Around} {E : Value → Shared → Prop} {s : Shared} {a : Addr} {S : Key → Bool} {n : Nat}
theorem mset_tail {g : Bool → Sem Unit} (hg : ∀ (b : Bool) (s₁ : Shared) (Q' : Unit → Shared → Prop), Q' () s₁ → wpAny (model P w) A (g b) Q' E s₁)
    {o : Obj} {es : Array (Int × Value)} {ep : Nat} {t : SetTable} (ho : s.heap.get? a = some o) (hex : o.ExactSet) (hd : o.data = .set es ep t)
    {es1 : Array (Int × Value)} {t2 : SetTable} {S' : Key → Bool} (g1 : ∀ e ∈ es1.toList, GoodM P w e) (nd1 : (es1.toList.map keyM).Nodup) (m1 : ∀ k, S' k = true ↔ k ∈ es1.toList.map keyM)
    (hb1 : es1.size < scanBound) (hf2 : t2.fits es1.size = true) (hr : Ris t2.place.toList) (hl : w.params.followText "set-order" = true ∨ t2.led = true) {wasDummy : Bool} {R : Option Bool → Shared → Prop}
    (hR : ∀ h', Heap.SameBut a s.heap h' → MSet P w h' a S' es1.size → R (some true) { s with heap := h' }) :
    wpAny (model P w) A (do
        storeSet a es1 t2
        if (!wasDummy && t2.tooFull) = true then do
            g (relayAll t2 es1 (SetTable.grown es1.size)).2.2
            storeSet a (relayAll t2 es1 (SetTable.grown es1.size)).1 (relayAll t2 es1 (SetTable.grown es1.size)).2.1
            pure (some true)
          else pure (some true)) R E s := by
  refine wpAny_bind (wpAny_storeSet_of ho hd ?_ (fits_of_scanBound hb1))
  have ho1 := store_at (es' := es1) (t' := t2) ho hd
  have sb1 := Heap.SameBut.update s.heap a (Obj.putSet es1 t2)
  split
  · have pm := relayAll_perm t2 es1 (SetTable.grown es1.size)
    have hf3 := relayAll_fits t2 es1 (SetTable.grown es1.size)
    have hr3 := relayAll_ris t2 es1 (SetTable.grown es1.size)
    have hl3 := relayAll_led t2 es1 (SetTable.grown es1.size)
    generalize relayAll t2 es1 (SetTable.grown es1.size) = Z at pm hf3 hr3 hl3 ⊢
    obtain ⟨es2, t3, gave⟩ := Z
    dsimp only at pm hf3 hr3 hl3 ⊢
    have hsz : es2.size = es1.size := by rw [← Array.length_toList, pm.length_eq, Array.length_toList]
    have hb2 : es2.size < scanBound := by rw [hsz]; exact hb1
    refine wpAny_bind (hg _ _ _ ?_)
    refine wpAny_bind (wpAny_storeSet_of ho1 rfl ?_ (fits_of_scanBound hb2))
    have ho2 := store_at (es' := es2) (t' := t3) ho1 rfl
    refine wpAny_pure (hR _ (sb1.trans (Heap.SameBut.update _ a _)) ?_)
    exact ⟨_, es2, _, t3, ho2, hex, rfl, fun e he => g1 e (pm.mem_iff.mp he), (pm.map keyM).nodup_iff.mpr nd1, fun k => (m1 k).trans (pm.map keyM).mem_iff.symm, hb2, hf3, hsz, hr3,
      hl.imp id fun z => by rw [hl3]; exact z⟩
  · exact wpAny_pure (hR _ sb1 ⟨_, es1, _, t2, ho1, hex, rfl, g1, nd1, m1, hb1, hf2, rfl, hr, hl⟩)
theorem mset_add {k : Key} {v : Value} {Q : Bool → Shared → Prop} (R : MSet P w s.heap a S n) (hkey : (mixKind P w).is k v = true) (room : n + 1 < scanBound)
    (hQ : ∀ h', Heap.SameBut a s.heap h' → MSet P w h' a (fun j => S j || decide (j = k)) (if S k = true then n else n + 1) → Q (!S k) { s with heap := h' }) :
    wpAny (model P w) A (setAddHashed a v ((mixKind P w).hash k)) Q E s := by
  obtain ⟨o, es, ep, t, ho, hex, hd, g, nd, hm, hb, hf, hn, hr, hl⟩ := R
  have hsc : v.scannable = true := (keyM_is (c := 0) hkey).2
  have hel : ElemsOf (mixKind P w) es.toList := goodM_elems g
  unfold setAddHashed setAddHashedIn
  refine wpAny_holding (wpAny_bind (wpAny_setState_of ho hd hf ?_))
  dsimp only
  rw [byScan_of hsc hb hel]
  simp only [↓reduceIte]
  unfold setAddByScan
  refine wpAny_bind ?_
  refine wpAny_bind (wpAny_rule ?_)
  refine wpAny_bind (wpAny_setScan_of hkey ho hd hf hel ?_)
  cases hfi : List.findIdx? (fun e => (mixKind P w).is k e.2) es.toList with
  | some j =>
    dsimp only
    obtain ⟨hj, pj, _⟩ := List.findIdx?_eq_some_iff_getElem.mp hfi
    have hSk : S k = true := (hm k).2 ((goodM_mem g k).2 ⟨es.toList[j], List.getElem_mem hj, pj⟩)
    refine wpAny_pure (wpAny_pure ?_)
    have q := hQ s.heap (Heap.SameBut.refl a s.heap) ⟨o, es, ep, t, ho, hex, hd, g, nd, fun i => by
      rw [Bool.or_eq_true, decide_eq_true_eq, ← hm i]
      exact ⟨fun z => z.elim id (fun e => e ▸ hSk), .inl⟩, hb, hf, by rw [if_pos hSk]; exact hn, hr, hl⟩
    rw [hSk] at q
    exact q
  | none =>
    dsimp only
    have hnk : k ∉ es.toList.map keyM := fun z => by
      obtain ⟨e, he, q⟩ := (goodM_mem g k).1 z
      have c := List.findIdx?_eq_none_iff.mp hfi e he
      rw [q] at c
      cases c
    have hSk : S k = false := by
      cases q : S k with
      | false => rfl
      | true => exact absurd ((hm k).1 q) hnk
    have hgw : ∀ (b : Bool) {s₁ : Shared} {Q' : Unit → Shared → Prop}, Q' () s₁ → wpAny (model P w) A (match b with | true => rule "set.scan.the-table-gave-way" | false => pure ()) Q' E s₁ :=
      fun b s₁ Q' q => by cases b <;> first | exact wpAny_pure q | exact wpAny_rule q
    have pm := layNew_perm t es ((mixKind P w).hash k) v
    have hf1 := layNew_fits t es ((mixKind P w).hash k) v
    have hr1 := layNew_ris t es ((mixKind P w).hash k) v hr
    have hl1 := layNew_led t es ((mixKind P w).hash k) v
    generalize layNew t es ((mixKind P w).hash k) v = Z at pm hf1 hr1 hl1 ⊢
    obtain ⟨es1, t1, wasDummy, gave⟩ := Z
    dsimp only at pm hf1 hr1 hl1 ⊢
    rw [Array.toList_push] at pm
    have pc : es1.toList.Perm (((mixKind P w).hash k, v) :: es.toList) := pm.trans (List.perm_append_singleton _ _)
    have ek : keyM ((mixKind P w).hash k, v) = k := (keyM_is hkey).1
    have pk : (es1.toList.map keyM).Perm (k :: es.toList.map keyM) := by
      have := pc.map keyM
      rw [List.map_cons, ek] at this
      exact this
    have g1 : ∀ e ∈ es1.toList, GoodM P w e := fun e he => by
      rcases List.mem_cons.mp (pc.mem_iff.mp he) with z | z
      · rw [z]; exact ⟨by rw [ek]; exact hkey, by rw [ek], hsc⟩
      · exact g e z
    have nd1 : (es1.toList.map keyM).Nodup := pk.nodup_iff.mpr (List.nodup_cons.mpr ⟨hnk, nd⟩)
    have m1 : ∀ i, (S i || decide (i = k)) = true ↔ i ∈ es1.toList.map keyM := fun i => by
      rw [Bool.or_eq_true, decide_eq_true_eq, hm i, pk.mem_iff, List.mem_cons]
      exact Or.comm
    have hsz : es1.size = n + 1 := by rw [← Array.length_toList, pc.length_eq, List.length_cons, Array.length_toList, hn]
    have hb1 : es1.size < scanBound := by rw [hsz]; exact room
    have hled : w.params.followText "set-order" = true ∨ t1.led = true := hl.imp id fun z => by rw [hl1]; exact z
    have fin : ∀ h', Heap.SameBut a s.heap h' → MSet P w h' a (fun j => S j || decide (j = k)) es1.size → Q true { s with heap := h' } := fun h' sb r => by
      have q := hQ h' sb
      rw [hSk] at q
      rw [hsz] at r
      exact q r
    refine wpAny_bind (hgw _ ?_)
    split
    · refine wpAny_bind ?_
      rw [hashByValue_scannable 8 hsc]
      refine wpAny_pure ?_
      refine mset_tail ?_ ho hex hd g1 nd1 m1 hb1 ?_ ?_ ?_ ?_
      · intro b s₁ Q' q; cases b <;> first | exact wpAny_pure q | exact wpAny_rule q
      · first | (split <;> first | exact hf1 | exact SetTable.fits_plain_off hf1) | exact hf1
      · first | (split <;> exact hr1) | exact hr1
      · first | (split <;> exact hled) | exact hled
      · intro h' sb r; dsimp only; exact wpAny_pure (fin h' sb r)
    · refine wpAny_bind (wpAny_pure ?_)
      simp only [↓reduceIte]
      refine mset_tail ?_ ho hex hd g1 nd1 m1 hb1 hf1 hr1 hled ?_
      · intro b s₁ Q' q; cases b <;> first | exact wpAny_pure q | exact wpAny_rule q
      · intro h' sb r; dsimp only; exact wpAny_pure (fin h' sb r)
theorem paired_at {α β : Type} {R : α → β → Prop} : ∀ {xs : List α} {ys : List β} {i : Nat} {y : β}, Paired R xs ys → ys[i]? = some y → ∃ x, xs[i]? = some x ∧ R x y
  | _, _, _, _, .nil, e => by simp at e
  | _, _, 0, _, .cons r _, e => by simp at e; subst e; exact ⟨_, rfl, r⟩
  | _, _, i + 1, _, .cons _ t, e => by simp at e; exact paired_at t e |>.imp fun x h => ⟨by simpa using h.1, h.2⟩
def memK (ks : List Key) (k : Key) : Bool := ks.any fun q => decide (q = k)
theorem memK_iff {ks : List Key} {k : Key} : memK ks k = true ↔ k ∈ ks := by
  unfold memK
  rw [List.any_eq_true]
  exact ⟨fun ⟨q, h, e⟩ => of_decide_eq_true e ▸ h, fun h => ⟨k, h, decide_eq_true rfl⟩⟩
theorem mset_loop {I : Addr} {fp wr : List Addr} {G : Array GenState → Array GenState → Prop} {n : Nat} {Pv : Nat → Value → Prop} {St : Nat → Shared → Prop} {R : Result → Shared → Prop}
    (W : WalksS P w A.in1 I fp wr G n Pv St) (S : Addr) (hSf : S ∉ fp) (ks : List Key) (hn : n = ks.length) (hval : ∀ i v, Pv i v → ∃ k, ks[i]? = some k ∧ (mixKind P w).is k v = true) (hb : n + 1 < scanBound) (h0 : Heap) (hS0 : h0.get? S = none) (hw0 : ∀ b ∈ wr, h0.get? b = none) :
    ∀ (k i : Nat) (s : Shared), n - i = k → i ≤ n → St i s → (∀ b o, h0.get? b = some o → s.heap.get? b = some o) → (∃ m, m ≤ i ∧ MSet P w s.heap S (memK (ks.take i)) m) →
      (∀ s' m, Moved (S :: wr) G s s' → m ≤ n → MSet P w s'.heap S (memK (ks.take n)) m → (∀ b o, h0.get? b = some o → s'.heap.get? b = some o) → R (.ok (.ret .none)) s') →
      codeAny (model P w) A (.builtin "set.update.loop" ⟨[.ref S, .ref I], []⟩) R s := by
  have hSw : S ∉ wr := fun h => hSf (W.sub _ h)
  have hsub : ∀ b ∈ wr, b ∈ S :: wr := fun b hb => List.mem_cons_of_mem _ hb
  have keepM : ∀ {s s' : Shared}, Moved wr G s s' → (∀ b o, h0.get? b = some o → s.heap.get? b = some o) → ∀ b o, h0.get? b = some o → s'.heap.get? b = some o := fun hm hkp b o e =>
    hm.heap b o (fun hb => by rw [hw0 b hb] at e; cases e) (hkp b o e)
  intro k
  induction k with
  | zero =>
    intro i s hk' hi hst hkp ⟨m, hm0, hS⟩ hR
    have hin : i = n := by omega
    subst hin
    refine codeAny_builtin F.entry_set_update_loop ?_
    rw [Around.under_plainId F.plain_set_update_loop _]
    show wpAny _ A.in1 (pyNext (.ref I) >>= _) _ _ s
    refine wpAny_bind (W.done s _ _ hst fun s' hm => ?_)
    show wpAny _ A.in1 (ret Value.none) _ _ s'
    exact wpAny_pure (hR s' m (hm.mono hsub) hm0 (hS.at fun o e => hm.heap S o hSw e) (keepM hm hkp))
  | succ k ih =>
    intro i s hk' hi hst hkp ⟨m, hm0, hS⟩ hR
    have hlt : i < n := by omega
    refine codeAny_builtin F.entry_set_update_loop ?_
    rw [Around.under_plainId F.plain_set_update_loop _]
    show wpAny _ A.in1 (pyNext (.ref I) >>= _) _ _ s
    refine wpAny_bind (W.item i s _ _ hlt hst fun v s' hP hst' hm => ?_)
    obtain ⟨q, hq, hv⟩ := hval i v hP
    have hkp' := keepM hm hkp
    have hS' : MSet P w s'.heap S (memK (ks.take i)) m := hS.at fun o e => hm.heap S o hSw e
    show wpAny _ A.in1 (holding [v] (setAdd S v) >>= _) _ _ s'
    refine wpAny_bind (wpAny_holding ?_)
    unfold setAdd
    refine wpAny_holding ?_
    refine wpAny_bind ((mixKind P w).pyHash (k := q) hv ?_)
    refine mset_add (s := { s' with toks := s'.toks + 1 }) hS' hv (by omega) fun h' hsb hS2 => ?_
    have htk : ks.take (i + 1) = ks.take i ++ [q] := by rw [List.take_succ, hq]; rfl
    have hS3 : ∃ m, m ≤ i + 1 ∧ MSet P w h' S (memK (ks.take (i + 1))) m := by
      refine ⟨_, ?_, hS2.congr (fun k' => ?_) rfl⟩
      · split <;> omega
      · rw [htk]
        unfold memK
        rw [List.any_append]
        simp only [List.any_cons, List.any_nil, Bool.or_false]
        congr 1
        rw [decide_eq_decide]
        exact eq_comm
    have hkp2 : ∀ b o, h0.get? b = some o → h'.get? b = some o := fun b o e => (hsb.2 b (fun z => by rw [z, hS0] at e; cases e)).trans (hkp' b o e)
    refine wpAny_pure ⟨plainId_quiet F.plain_set_update_loop _, ih (i + 1) _ (by omega) hlt (W.frame _ s' _ _ hst' (Nat.le_add_right _ _) fun b hb o e => ?_) hkp2 hS3 fun s'' m2 hm'' hl2 hS'' hkp'' => ?_⟩
    · rw [hsb.2 b (fun h : b = S => hSf (by rw [← h]; exact hb))]; exact e
    · refine hR s'' m2 (Moved.trans W.gtrans ((hm.mono hsub).then_heap (Nat.le_add_right _ _) fun b o hb e => ?_) hm'') hl2 hS'' hkp''
      rw [hsb.2 b (fun h : b = S => hb (by rw [h]; exact List.mem_cons_self))]; exact e
set_option maxHeartbeats 6400000 in
/-- set(xs) -/
theorem call_mset {l : Addr} {items : Array Value} (ks : List Key) {Q : Value → Shared → Prop} (hh : A.handled = none) (hl : s.heap.IsList l items) (hit : Paired (fun k v => (mixKind P w).is k v = true) ks items.toList)
    (hfew : ks.length + 1 < scanBound)
    (h : ∀ (h' : Heap) (tk m : Nat), m ≤ ks.length → MSet P w h' s.heap.objs.size (memK ks) m → (∀ b o, s.heap.get? b = some o → h'.get? b = some o) → Q (.ref s.heap.objs.size) { s with heap := h', toks := tk }) :
    wpAny (model P w) A (call (.type "set") [.ref l]) Q E s := by
  have hisz : items.size = ks.length := by
    rw [← Array.length_toList]
    exact (Paired.length hit).symm
  obtain ⟨c, tl, hmro⟩ := F.called_set.mro
  have hmade := F.called_set.made
  have hsub := F.called_set.sub
  refine wpAny_call (codeAny_of_tree ?_)
  show wpAny _ _ (callAny (.type "set") _) _ _ _
  refine wpAny_pure ⟨Code.quiet_builtin _ (by decide +kernel), codeAny_builtin F.entry_type_call ?_⟩
  rw [Around.under_plain (weight_type_call_type "set" [.ref l] []) rfl]
  have h1 := F.called_set.notType
  have h2 := F.called_set.canCreate
  have hct := F.typeCall_set_1 (.ref l)
  repeat (any_goals (first | assumption | wp_step))
  refine codeAny_mono (code_set_led1 (.ref l) (E := E) (Q₁ := fun obj s₁ => obj = .ref s.heap.objs.size ∧ s₁ = { s with heap := s.heap.push { cls := .type "set", dict := none, data := .set #[] 0 (.fresh 0 0 (!w.params.followText "set-order")) } }) ⟨rfl, rfl⟩) fun r s₁ hr => ?_
  cases r with
  | error e => exact hr
  | ok fl =>
    cases fl with
    | ret obj =>
      obtain ⟨rfl, rfl⟩ := hr
      have hS : (s.heap.push { cls := .type "set", dict := none, data := .set #[] 0 (.fresh 0 0 (!w.params.followText "set-order")) }).get? s.heap.objs.size = some { cls := .type "set", dict := none, data := .set #[] 0 (.fresh 0 0 (!w.params.followText "set-order")) } := Heap.get?_push_size _ rfl
      have hT : Shared.TypeIs { s with heap := s.heap.push { cls := .type "set", dict := none, data := .set #[] 0 (.fresh 0 0 (!w.params.followText "set-order")) } } (.ref s.heap.objs.size) "set" := ⟨_, hS, rfl⟩
      have hli := F.called_set.init.lookup
      have hbi := F.called_set.init.bind (.ref s.heap.objs.size)
      repeat (any_goals (first | assumption | wp_step))
      refine codeAny_mono (codeAny_call_builtin (R := wants (fun r s₂ => r = .none ∧ ∃ h' tk m, s₂ = { s with heap := h', toks := tk } ∧ m ≤ ks.length ∧ MSet P w h' s.heap.objs.size (memK ks) m ∧
          (∀ b o, s.heap.get? b = some o → h'.get? b = some o)) E) F.called_set.init.plain F.entry_set_init (check_set_init_1 hT ?_)) fun r₂ s₂ hr₂ => ?_
      · obtain ⟨ol, hol, hcl, nl, hdl⟩ := hl
        obtain ⟨ocls, odict, odata, oslots⟩ := ol
        simp only at hcl hdl
        subst hcl; subst hdl
        have hol' : (s.heap.push { cls := .type "set", dict := none, data := .set #[] 0 (.fresh 0 0 (!w.params.followText "set-order")) }).get? l = some { cls := .type "list", dict := odict, data := .seq items nl, slots := oslots } := Heap.get?_push_of_some _ hol
        have hsls := F.sub_list_set
        have hslf := F.sub_list_frozenset
        have hne : (Value.type "list" == Value.type "dict") = false := by decide
        have hl1 : (s.heap.push { cls := .type "set", dict := none, data := .set #[] 0 (.fresh 0 0 (!w.params.followText "set-order")) }).IsList l items := ⟨_, hol', rfl, nl, rfl⟩
        unfold Builtin.«set.__init__» noKeywords Builtin.Frozenset.updateFrom
        generalize hPI : pyIter = PI
        wp_walk
        subst hPI
        refine wpAny_pyIter_list hl1 ?_
        refine wpAny_bind (wpAny_runValue ?_)
        have hlS : l < s.heap.objs.size := Heap.lt_size hol
        have hh3 : A.in1.in1.in1.handled = none := by simp [hh]
        have hz1 : (s.heap.push { cls := .type "set", dict := none, data := .set #[] 0 (.fresh 0 0 (!w.params.followText "set-order")) }).objs.size = s.heap.objs.size + 1 := Heap.size_push ..
        have hneI : l ≠ (s.heap.push { cls := .type "set", dict := none, data := .set #[] 0 (.fresh 0 0 (!w.params.followText "set-order")) }).objs.size := by
          rw [Heap.size_push]; exact Nat.ne_of_lt (Nat.lt_succ_of_lt hlS)
        have hSf : s.heap.objs.size ∉ [(s.heap.push { cls := .type "set", dict := none, data := .set #[] 0 (.fresh 0 0 (!w.params.followText "set-order")) }).objs.size, l] := by
          rw [Heap.size_push]; simp only [List.mem_cons, List.mem_singleton, List.not_mem_nil, or_false, not_or]
          exact ⟨Nat.ne_of_lt (Nat.lt_succ_self _), Nat.ne_of_gt hlS⟩
        have hval : ∀ (i : Nat) (v : Value), items[i]? = some v → ∃ k, ks[i]? = some k ∧ (mixKind P w).is k v = true := fun i v hv =>
          paired_at (R := fun k v => (mixKind P w).is k v = true) hit (by rw [Array.getElem?_toList]; exact hv)
        have none_of : ∀ b, s.heap.objs.size ≤ b → s.heap.get? b = none := fun b hb => by
          cases q : s.heap.get? b with
          | none => rfl
          | some o => exact absurd (Nat.lt_of_lt_of_le (Heap.lt_size q) hb) (Nat.lt_irrefl _)
        refine mset_loop ((Walks.list hh3 _ l hneI items).toS) s.heap.objs.size
          hSf ks hisz hval (by rw [hisz]; exact hfew) s.heap (none_of _ (Nat.le_refl _)) (fun b hb => none_of b (by
            rw [List.mem_singleton.mp hb, Heap.size_push]
            exact Nat.le_succ _)) (items.size - 0) 0 _ (by omega) (Nat.zero_le _)
          ⟨⟨_, Heap.get?_push_size _ rfl, rfl, rfl⟩, (hl1.push _)⟩ (fun b o e => Heap.get?_push_of_some _ (Heap.get?_push_of_some _ e)) ?hS0 ?hR
        case hS0 =>
          have hget : ((s.heap.push { cls := .type "set", dict := none, data := .set #[] 0 (.fresh 0 0 (!w.params.followText "set-order")) }).push { cls := .type "list_iterator", data := .fields #[.ref l, .int 0 0] }).get? s.heap.objs.size
              = some { cls := .type "set", dict := none, data := .set #[] 0 (.fresh 0 0 (!w.params.followText "set-order")) } := Heap.get?_push_of_some _ hS
          exact ⟨0, Nat.le_refl _, (MSet.fresh (ho := hget)).congr (fun k => rfl) rfl⟩
        case hR =>
          intro s' m hm hml hS' hkp
          obtain ⟨h', g2, d', tk', os'⟩ := s'
          have eg : g2 = s.gens := hm.gens
          have ed : d' = s.drawn := hm.drawn
          have eo : os' = s.os := hm.os
          subst eg; subst ed; subst eo
          show wpAny _ _ _ _ _ _
          refine wpAny_pure ?_
          show wpAny _ _ (ret Value.none) _ _ _
          rw [hisz] at hS' hml
          rw [List.take_length] at hS'
          exact wpAny_pure ⟨rfl, h', tk', m, rfl, hml, hS', hkp⟩
      · cases r₂ with
        | error e => exact hr₂
        | ok fl₂ =>
          cases fl₂ with
          | ret r =>
            obtain ⟨rfl, h', tk, m, rfl, hml, hS', hk'⟩ := hr₂
            repeat (any_goals (first | assumption | wp_step))
            exact h _ _ _ hml hS' hk'
          | _ => exact hr₂.elim
    | _ => exact hr.elim
end
end Pi

set_option Elab.async false
set_option linter.all false
set_option maxRecDepth 100000
set_option maxHeartbeats 4000000
/-! PiSet3: such a set sorted. -/
namespace Pi
open PySem PySem.Spec PyProof.Rows L2
theorem strs_of_vals : ∀ (l : List Value), (∀ v ∈ l, ∃ x tk, v = Value.str x tk) → ∃ ss, StrsAre l ss ∧ ss.map Sum.inr = l.map fun v => keyM (0, v)
  | [], _ => ⟨[], .nil, rfl⟩
  | v :: l, h => by
    obtain ⟨x, tk, rfl⟩ := h v List.mem_cons_self
    obtain ⟨ss, h1, h2⟩ := strs_of_vals l fun u hu => h u (List.mem_cons_of_mem _ hu)
    exact ⟨x :: ss, .cons x tk h1, by simp only [List.map_cons, h2]; rfl⟩
theorem ints_of_vals : ∀ (l : List Value), (∀ v ∈ l, ∃ x tk, v = Value.int x tk) → ∃ ss : List Int, IntsAre l ss ∧ ss.map Sum.inl = l.map fun v => keyM (0, v)
  | [], _ => ⟨[], .nil, rfl⟩
  | v :: l, h => by
    obtain ⟨x, tk, rfl⟩ := h v List.mem_cons_self
    obtain ⟨ss, h1, h2⟩ := ints_of_vals l fun u hu => h u (List.mem_cons_of_mem _ hu)
    exact ⟨x :: ss, .cons x tk h1, by simp only [List.map_cons, h2]; rfl⟩
theorem nodup_eraseDups {α : Type} [BEq α] [LawfulBEq α] : ∀ l : List α, l.eraseDups.Nodup
  | [] => by simp
  | a :: r => by
    rw [List.eraseDups_cons, List.nodup_cons]
    refine ⟨fun h => ?_, nodup_eraseDups _⟩
    rw [List.mem_eraseDups, List.mem_filter] at h
    simp at h
termination_by l => l.length
decreasing_by exact Nat.lt_succ_of_le (List.length_filter_le _ _)
theorem shapeM {P : Program} {w : World} {k : Key} {v : Value} (h : (mixKind P w).is k v = true) : (∃ i t, k = Sum.inl i ∧ v = .int i t) ∨ ∃ x t, k = Sum.inr x ∧ v = .str x t := by
  rcases keyIs_shape (show keyIs k v = true from h) with ⟨i, t, rfl, rfl⟩ | ⟨x, t, rfl, rfl⟩
  · exact .inl ⟨i, t, rfl, rfl⟩
  · exact .inr ⟨x, t, rfl, rfl⟩
section
variable {P : Program} {w : World} {A : Around} {E : Value → Shared → Prop} {s : Shared} {a : Addr}
theorem mset_sortedI {ns : List Int} {n : Nat} {Q : Value → Shared → Prop} (R : MSet P w s.heap a (memK (ns.map Sum.inl)) n) (hh : A.handled = none) (h64 : n < 64)
    (hQ : ∀ s' p (out : Array Value) (c : Nat), (∀ b o, s.heap.get? b = some o → s'.heap.get? b = some o) → s'.gens = s.gens → s'.os = s.os → s.heap.objs.size ≤ p →
      s'.heap.get? p = some (seqObj "list" out c) → IntsAre out.toList (srtI ns.eraseDups) → Q (.ref p) s') :
    wpAny (model P w) A (call (.builtin "sorted") [.ref a]) Q E s := by
  obtain ⟨o, es, ep, t, ho, hex, hd, g, nd, hm, hb, hf, hn, hr, hl⟩ := R
  refine Calls.call_function_entry kind_sorted plain_sorted entry_sorted (args_sorted1 _) ?_
  unfold Builtin.«sorted»
  refine wpAny_bind (m := checkCount "sorted" 1 1 _) (wpAny_pure ?_)
  refine wpAny_bind (collect_set (A := A.in1) hh ⟨o, ho, hex.1, hd⟩ hf hb hr hl fun s1 vs k1 hz g1 o1 pm => ?_)
  have hvl : vs.length = n := by rw [pm.length_eq, List.length_map, Array.length_toList]; exact hn
  have hv : ∀ v ∈ vs, ∃ k tk, v = Value.int k tk := fun v hv => by
    obtain ⟨e, he, q⟩ := List.mem_map.mp (pm.mem_iff.mp hv)
    have hk := (hm (keyM e)).2 (List.mem_map_of_mem he)
    obtain ⟨x, hx, ex⟩ := List.mem_map.mp (memK_iff.mp hk)
    have gi := (g e he).1
    rw [← ex, q] at gi
    rcases shapeM gi with ⟨i, t, e1, e2⟩ | ⟨y, t, e1, e2⟩
    · exact ⟨i, t, e2⟩
    · cases e1
  obtain ⟨is, hI, hk⟩ := ints_of_vals vs hv
  have pk : (is.map (Sum.inl : Int → Key)).Perm (es.toList.map keyM) := by
    rw [hk]
    have q := pm.map fun v => keyM (0, v)
    rw [List.map_map] at q
    exact q
  refine wpAny_bind (wpAny_newList ?_ (by rw [hvl, sizeLine_eq]; omega))
  have hoL : (s1.heap.push (seqObj "list" vs.toArray 0)).get? s1.heap.objs.size = some (seqObj "list" vs.toArray 0) := Heap.get?_push_size _ rfl
  refine wpAny_bind (wpAny_holding (wpAny_call_entry slot_list_sort ⟨_, hoL, rfl⟩ entry_list_sort (list_sort_tree hoL hI (by rw [hvl]; exact h64) fun out ns' a1 a2 a3 => ⟨_, rfl, ?_⟩) (args_list_sort _)))
  obtain ⟨c, hc⟩ := sortedHeap_at (vs := vs) (out := out) hoL
  have isnd : is.Nodup := by
    have := pk.nodup_iff.mpr nd
    exact List.Pairwise.of_map _ (fun _ _ hne e => hne (congrArg Sum.inl e)) this
  have mem : ∀ k, k ∈ is ↔ k ∈ ns.eraseDups := fun k => by
    rw [List.mem_eraseDups]
    constructor
    · intro h
      have h2 := pk.mem_iff.mp (List.mem_map_of_mem (f := (Sum.inl : Int → Key)) h)
      obtain ⟨y, hy, ey⟩ := List.mem_map.mp (memK_iff.mp ((hm _).2 h2))
      cases ey
      exact hy
    · intro h
      have h2 := pk.mem_iff.mpr ((hm _).1 (memK_iff.mpr (List.mem_map_of_mem (f := (Sum.inl : Int → Key)) h)))
      obtain ⟨y, hy, ey⟩ := List.mem_map.mp h2
      cases ey
      exact hy
  have pn : ns'.Perm ns.eraseDups := a2.trans ((List.perm_ext_iff_of_nodup isnd (nodup_eraseDups _)).mpr mem)
  refine wpAny_pure ⟨_, rfl, hQ _ s1.heap.objs.size out c (fun b u e => ?_) g1 o1 hz hc ?_⟩
  · have q := k1 b u e
    have hlt := Heap.lt_size q
    show (sortedHeap (s1.heap.push (seqObj "list" vs.toArray 0)) s1.heap.objs.size vs out).get? b = some u
    rw [sortedHeap_old (Nat.ne_of_lt hlt) (by rw [size_push']; exact Nat.lt_succ_of_lt hlt)]
    exact Heap.get?_push_of_some _ q
  · rw [← srtI_uniq pn a3]; exact a1
theorem mset_sortedS {ns : List (List Nat)} {n : Nat} {Q : Value → Shared → Prop} (R : MSet P w s.heap a (memK (ns.map fun x => Sum.inr (mkS x))) n) (hh : A.handled = none) (h64 : n < 64)
    (hQ : ∀ s' p (out : Array Value) (c : Nat), (∀ b o, s.heap.get? b = some o → s'.heap.get? b = some o) → s'.gens = s.gens → s'.os = s.os → s.heap.objs.size ≤ p →
      s'.heap.get? p = some (seqObj "list" out c) → StrsAre out.toList ((srtS ns.eraseDups).map mkS) → Q (.ref p) s') :
    wpAny (model P w) A (call (.builtin "sorted") [.ref a]) Q E s := by
  obtain ⟨o, es, ep, t, ho, hex, hd, g, nd, hm, hb, hf, hn, hr, hl⟩ := R
  refine Calls.call_function_entry kind_sorted plain_sorted entry_sorted (args_sorted1 _) ?_
  unfold Builtin.«sorted»
  refine wpAny_bind (m := checkCount "sorted" 1 1 _) (wpAny_pure ?_)
  refine wpAny_bind (collect_set (A := A.in1) hh ⟨o, ho, hex.1, hd⟩ hf hb hr hl fun s1 vs k1 hz g1 o1 pm => ?_)
  have hvl : vs.length = n := by rw [pm.length_eq, List.length_map, Array.length_toList]; exact hn
  have hv : ∀ v ∈ vs, ∃ k tk, v = Value.str k tk := fun v hv => by
    obtain ⟨e, he, q⟩ := List.mem_map.mp (pm.mem_iff.mp hv)
    have hk := (hm (keyM e)).2 (List.mem_map_of_mem he)
    obtain ⟨x, hx, ex⟩ := List.mem_map.mp (memK_iff.mp hk)
    have gi := (g e he).1
    rw [← ex, q] at gi
    rcases shapeM gi with ⟨i, t, e1, e2⟩ | ⟨y, t, e1, e2⟩
    · cases e1
    · exact ⟨y, t, e2⟩
  obtain ⟨is, hI, hk⟩ := strs_of_vals vs hv
  have pk : (is.map (Sum.inr : Str → Key)).Perm (es.toList.map keyM) := by
    rw [hk]
    have q := pm.map fun v => keyM (0, v)
    rw [List.map_map] at q
    exact q
  refine wpAny_bind (wpAny_newList ?_ (by rw [hvl, sizeLine_eq]; omega))
  have hoL : (s1.heap.push (seqObj "list" vs.toArray 0)).get? s1.heap.objs.size = some (seqObj "list" vs.toArray 0) := Heap.get?_push_size _ rfl
  refine wpAny_bind (wpAny_holding (wpAny_call_entry slot_list_sort ⟨_, hoL, rfl⟩ entry_list_sort (list_sort_treeK strKind_oneLt hoL hI.keysOf (fun v₁ v₂ rest e => keyKind_strs (by rw [← e]; exact hI)) (by rw [hvl]; exact h64) fun st' a1 a2 => ⟨_, rfl, ?_⟩) (args_list_sort _)))
  obtain ⟨ss', b1, b2, b3⟩ := sorted_out_str hI a1 a2
  obtain ⟨c, hc⟩ := sortedHeap_at (vs := vs) (out := (arrOf st').map (·.2)) hoL
  have isnd : is.Nodup := by
    have := pk.nodup_iff.mpr nd
    exact List.Pairwise.of_map _ (fun _ _ hne e => hne (congrArg Sum.inr e)) this
  have mem : ∀ k, k ∈ is.map tl ↔ k ∈ ns.eraseDups := fun k => by
    rw [List.mem_eraseDups]
    constructor
    · intro h
      obtain ⟨z, hz, ez⟩ := List.mem_map.mp h
      have h2 := pk.mem_iff.mp (List.mem_map_of_mem (f := (Sum.inr : Str → Key)) hz)
      obtain ⟨y, hy, ey⟩ := List.mem_map.mp (memK_iff.mp ((hm _).2 h2))
      have ey := Sum.inr.inj ey
      rw [← ez, ← ey, tl_mkS]
      exact hy
    · intro h
      have h2 := pk.mem_iff.mpr ((hm _).1 (memK_iff.mpr (List.mem_map_of_mem (f := fun x => (Sum.inr (mkS x) : Key)) h)))
      obtain ⟨y, hy, ey⟩ := List.mem_map.mp h2
      have ey := Sum.inr.inj ey
      refine List.mem_map.mpr ⟨y, hy, ?_⟩
      rw [ey, tl_mkS]
  have tnd : (is.map tl).Nodup := List.pairwise_map.mpr (isnd.imp fun hne e => hne (by have := congrArg mkS e; rwa [mkS_tl, mkS_tl] at this))
  have pn : (ss'.map tl).Perm ns.eraseDups := (b2.map tl).trans ((List.perm_ext_iff_of_nodup tnd (nodup_eraseDups _)).mpr mem)
  refine wpAny_pure ⟨_, rfl, hQ _ s1.heap.objs.size _ c (fun b u e => ?_) g1 o1 hz hc ?_⟩
  · have q := k1 b u e
    have hlt := Heap.lt_size q
    show (sortedHeap (s1.heap.push (seqObj "list" vs.toArray 0)) s1.heap.objs.size vs _).get? b = some u
    rw [sortedHeap_old (Nat.ne_of_lt hlt) (by rw [size_push']; exact Nat.lt_succ_of_lt hlt)]
    exact Heap.get?_push_of_some _ q
  · rw [← srtS_uniq pn (sortedS_pw _ b3), List.map_map]
    have : (ss'.map (mkS ∘ tl)) = ss' := by
      exact (List.map_congr_left (g := id) (fun x _ => mkS_tl x)).trans (List.map_id _)
    rw [this]
    exact b1
end
end Pi

set_option Elab.async false
set_option linter.all false
set_option maxRecDepth 100000
set_option maxHeartbeats 4000000
/-! PiSs: sorted(set(xs)). -/
namespace Pi
open PySem PySem.Spec PyProof.Rows L2
def tSS (K : PySem.W.Frag) (ta : TE) : TE := fun σ H Q => ta σ H fun x H1 => ∃ l, x = .ref l ∧
  ((∃ ns : List Int, SqL K H1 l (ns.map V.int) ∧ ns.length < 64 ∧ ∀ p, H1 p = none → Q (.ref p) (upd H1 p (.lst ((srtI ns.eraseDups).map V.int)))) ∨
   (∃ ns : List (List Nat), SqL K H1 l (ns.map fun s => V.str (mkS s)) ∧ ns.length < 64 ∧ ∀ p, H1 p = none → Q (.ref p) (upd H1 p (.lst ((srtS ns.eraseDups).map fun s => V.str (mkS s))))))
theorem paired_ints {P : Program} {w : World} : ∀ {ns : List Int} {us : List Value}, Vals (ns.map V.int) us → Paired (fun k v => (mixKind P w).is k v = true) (ns.map (Sum.inl : Int → Key)) us
  | [], _, .nil => .nil
  | n :: ns, _, .cons r t => .cons (by obtain ⟨t, rfl⟩ := r; exact kV_is (P := P) (w := w) (k := .inl n) (u := .int n t) ⟨t, rfl⟩) (paired_ints t)
theorem paired_strs {P : Program} {w : World} : ∀ {ns : List (List Nat)} {us : List Value}, Vals (ns.map fun s => V.str (mkS s)) us → Paired (fun k v => (mixKind P w).is k v = true) (ns.map fun s => (Sum.inr (mkS s) : Key)) us
  | [], _, .nil => .nil
  | n :: ns, _, .cons r t => .cons (by obtain ⟨t, rfl⟩ := r; exact kV_is (P := P) (w := w) (k := .inr (mkS n)) (u := .str (mkS n) t) ⟨t, rfl⟩) (paired_strs t)
section
variable {X : Cx}
theorem eraseDups_le {α : Type} [BEq α] [LawfulBEq α] : ∀ l : List α, l.eraseDups.length ≤ l.length
  | [] => by simp
  | a :: r => by
    rw [List.eraseDups_cons, List.length_cons, List.length_cons]
    have := eraseDups_le (r.filter fun b => !b == a)
    have := List.length_filter_le (fun b => !b == a) r
    omega
termination_by l => l.length
decreasing_by exact Nat.lt_succ_of_le (List.length_filter_le _ _)
theorem pe_sortedSet {a : Expr} {ta : TE} {p p2 q pos : Pos} (hc : X.calm = true) (hg : Gl X "sorted") (hm : X.mg "sorted" = none) (hg2 : Gl X "set") (hm2 : X.mg "set" = none) (ha : PE X a ta)
    (na : starEach [a] X.env = (false, eval a X.env) :: starEach [] X.env := by rfl) : PE X (.Call (.Name "sorted" p) [.Call (.Name "set" p2) [a] [] q] [] pos) (tSS X.K ta) := by
  refine ⟨fun pins s σ H Q I h => ?_⟩
  refine Call_ (ld_blt I hg hm PyProof.Rows.boot_sorted ?_)
  refine PyProof.Rows.callWith_builtin1 (PyProof.Rows.args_cons ?_ rfl) rfl rfl
  refine Call_ (ld_blt I hg2 hm2 PyProof.Rows.boot_set ?_)
  refine PyProof.Rows.callWith_type1 (PyProof.Rows.args_cons (thn (ha.run pins s σ H _ I h) fun v s1 ⟨x, H1, I1, r1, q1⟩ => PyProof.Rows.args_nil ?_) na) na rfl
  obtain ⟨l, rfl, q1⟩ := q1
  cases r1
  have hh : X.A.handled = none := I1.ok.hd hc
  rcases q1 with ⟨ns, hq, h1, q1⟩ | ⟨ns, hq, h1, q1⟩
  · obtain ⟨its, r, pl, hz⟩ := I1.list hq
    refine call_mset (ns.map Sum.inl) hh pl.isList (paired_ints r) (by rw [List.length_map]; exact Nat.lt_of_lt_of_le (Nat.succ_lt_succ h1) (by decide)) fun h' tk m hm hS hk => PyProof.Rows.args_nil ?_
    have I2 : Inv X pins σ H1 { s1 with heap := h', toks := tk } := I1.kept fun b o e => hk b o e
    rw [List.length_map] at hm
    refine mset_sortedI hS hh (by omega) fun s' p out c k g o hp hg hi => ?_
    have hlen : ((srtI ns.eraseDups).map V.int).length ≤ sizeLine := by
      rw [List.length_map, (srtI_perm _).length_eq, sizeLine_eq]
      have := eraseDups_le ns
      omega
    have hp' : h'.objs.size ≤ p := hp
    have hn : H1 p = none := I2.hok.fresh hp'
    have J : Inv X pins σ (upd H1 p (.lst ((srtI ns.eraseDups).map V.int))) { { s1 with heap := h', toks := tk } with heap := s'.heap, gens := s'.gens, drawn := s'.drawn, toks := s'.toks } :=
      I2.call (ch := []) (Un.laid k hp hn) (I2.hok.laid k hp ⟨hlen, out.toList, c, vals_of_ints hi, hg⟩) (by rw [g]; exact I2.bare) (fun _ z => nomatch z)
    have e : s' = { { s1 with heap := h', toks := tk } with heap := s'.heap, gens := s'.gens, drawn := s'.drawn, toks := s'.toks } := by
      cases s'
      cases s1
      cases o
      rfl
    rw [e]
    exact ⟨.ref p, _, J, rfl, q1 p hn⟩
  · obtain ⟨its, r, pl, hz⟩ := I1.list hq
    refine call_mset (ns.map fun s => Sum.inr (mkS s)) hh pl.isList (paired_strs r) (by rw [List.length_map]; exact Nat.lt_of_lt_of_le (Nat.succ_lt_succ h1) (by decide)) fun h' tk m hm hS hk => PyProof.Rows.args_nil ?_
    have I2 : Inv X pins σ H1 { s1 with heap := h', toks := tk } := I1.kept fun b o e => hk b o e
    rw [List.length_map] at hm
    refine mset_sortedS hS hh (by omega) fun s' p out c k g o hp hg hi => ?_
    have hlen : ((srtS ns.eraseDups).map fun s => V.str (mkS s)).length ≤ sizeLine := by
      rw [List.length_map, (srtS_perm _).length_eq, sizeLine_eq]
      have := eraseDups_le ns
      omega
    have hp' : h'.objs.size ≤ p := hp
    have hn : H1 p = none := I2.hok.fresh hp'
    have hv : Vals ((srtS ns.eraseDups).map fun s => V.str (mkS s)) out.toList := by
      have := vals_of_strs hi
      rw [List.map_map] at this
      exact this
    have J : Inv X pins σ (upd H1 p (.lst ((srtS ns.eraseDups).map fun s => V.str (mkS s)))) { { s1 with heap := h', toks := tk } with heap := s'.heap, gens := s'.gens, drawn := s'.drawn, toks := s'.toks } :=
      I2.call (ch := []) (Un.laid k hp hn) (I2.hok.laid k hp ⟨hlen, out.toList, c, hv, hg⟩) (by rw [g]; exact I2.bare) (fun _ z => nomatch z)
    have e : s' = { { s1 with heap := h', toks := tk } with heap := s'.heap, gens := s'.gens, drawn := s'.drawn, toks := s'.toks } := by
      cases s'
      cases s1
      cases o
      rfl
    rw [e]
    exact ⟨.ref p, _, J, rfl, q1 p hn⟩
variable {W : WX} {b : Expr} {fb : Rho → Res (Mo × D)}
theorem snd_sset' {p p2 pos pos2 : Pos} (hc : X.calm = true) (hm : ∀ x ∈ bnames, X.mg x = none) (hg : Gl X "sorted") (hg2 : Gl X "set") (hp : plainE b = true) (hb : PE X b (GE X W fb)) :
    PE X (.Call (.Name "sorted" p) [.Call (.Name "set" p2) [b] [] pos2] [] pos) (GE X W (fun ρ => fb ρ >>= fun x => optR (setG x))) := by
  refine PE.imp (pe_sortedSet hc hg (hm _ (by decide)) hg2 (hm _ (by decide)) hb (plainE_star hp [] _)) fun σ H Q ⟨ρ, Z, FP, e, o⟩ => ?_
  have o : Out X W H Z σ (QE X H FP Q) (fb ρ >>= fun y => optR (setG y)) := o
  refine GE.bind' e o fun y v H1 Z1 e00 x1 r1 e1 o1 => ?_
  obtain ⟨m, d⟩ := y
  obtain ⟨c2, hc2, o4⟩ := out_opt (Out.step o1 x1)
  unfold setG at hc2
  cases d <;> first | (cases hc2; done) | skip
  rename_i ds
  simp only at hc2
  split at hc2
  · rename_i ns hns
    split at hc2 <;> cases hc2
    rename_i hl
    have ed := ints?_eq hns
    subst ed
    have hat : ∀ l : List Int, (l.map D.int).all D.atom = true := fun l => by rw [List.all_map, List.all_eq_true]; exact fun _ _ => rfl
    obtain ⟨a, xs, e3, q3, r3⟩ := ResOk.items r1 (by unfold elOk; rw [hat]; simp)
    have e4 := r3.ints
    subst e3 e4
    refine ⟨a, rfl, .inl ⟨ns, .inl (.inl q3), hl, fun p hp => ?_⟩⟩
    obtain ⟨Z', x3, x4⟩ := new_lst (FP := FP) e1.zd x1.same hp (RepL.of_ints (K := X.fr) (H := H1) (Z := Z1) (srtI ns.eraseDups))
    rw [show lmo ((srtI ns.eraseDups).map D.int) = .ow from if_pos (hat _)] at x4
    exact out_ok o4 x3 _ x4
  · split at hc2
    · rename_i ns hns
      split at hc2 <;> cases hc2
      rename_i hl
      have ed := strs?_eq hns
      subst ed
      have hat : ∀ l : List (List Nat), (l.map D.str).all D.atom = true := fun l => by rw [List.all_map, List.all_eq_true]; exact fun _ _ => rfl
      obtain ⟨a, xs, e3, q3, r3⟩ := ResOk.items r1 (by unfold elOk; rw [hat]; simp)
      have e4 := r3.strs
      subst e3 e4
      refine ⟨a, rfl, .inr ⟨ns, .inl (.inl q3), hl, fun p hp => ?_⟩⟩
      obtain ⟨Z', x3, x4⟩ := new_lst (FP := FP) e1.zd x1.same hp (RepL.of_strs (K := X.fr) (H := H1) (Z := Z1) (srtS ns.eraseDups))
      rw [show lmo ((srtS ns.eraseDups).map D.str) = .ow from if_pos (hat _)] at x4
      exact out_ok o4 x3 _ x4
    · cases hc2
end
end Pi

set_option Elab.async false
set_option linter.all false
set_option maxRecDepth 100000
set_option maxHeartbeats 4000000
/-! Pi17: the theorem for expressions. -/
namespace Pi
open PySem PySem.Spec PyProof.Rows L2
theorem ev_tst {k : Ck} {X : Cx} {W : WX} {e : E} {a : Expr} (h : Snd k X W e a) (ht : e.tst = true) : PT X a (GT X W (fT (ev k.T e))) := h.pt ht
theorem chks_len : ∀ (es : Es) (k : Ck) (l : List Expr), chks es k l = true → l.length = esLen es
  | .nil, k, l, h => by
    unfold chks at h
    split at h
    · rfl
    · cases h
  | .cons e es, k, l, h => by
    unfold chks at h
    split at h
    · rename_i x r
      simp only [Bool.and_eq_true] at h
      rw [List.length_cons, chks_len es k r h.2]; rfl
    · cases h
mutual
theorem snd : ∀ (e : E) (k : Ck) (X : Cx) (W : WX) (a : Expr), CkOk k X W → chk e k a = true → Snd k X W e a
  | .var i, k, X, W, a, c, h => by
    unfold chk at h
    split at h
    · rename_i x p
      simp only [Bool.and_eq_true, decide_eq_true_eq] at h
      have hn := okName_of h.2
      exact .of_val (snd_var (by rw [c.hN]; exact h.1.1) (c.vis h.1.2) hn.1 hn.2.1) rfl
    · cases h
  | .con d, k, X, W, a, c, h => by
    unfold chk at h
    split at h
    · exact .of_val (snd_con h) rfl
    · cases h
  | .glob g, k, X, W, a, c, h => by
    unfold chk at h
    split at h
    · rename_i x p
      simp only [Bool.and_eq_true, decide_eq_true_eq] at h
      exact .of_val (snd_glob c.tab h.1.1 (c.gl_ h.1.2) (okName_of h.2).1) rfl
    · cases h
  | .op o a b, k, X, W, e, c, h => by
    unfold chk at h
    split at h
    · rename_i x p y pos
      simp only [Bool.and_eq_true, decide_eq_true_eq] at h
      obtain ⟨r, h1, h2⟩ := bin_ok (X := X) h.1.1
      exact .of_val (PE.imp (pe_op h1 (snd a k X W x c h.1.2).pe (snd b k X W y c h.2).pe) (bin_snd h2)) rfl
    · rename_i x p y pos
      simp only [Bool.and_eq_true, decide_eq_true_eq] at h
      obtain ⟨r, h1, h2⟩ := cmp_ok c.un h.1.1
      have ha := (snd a k X W x c h.1.2).pe
      have hb := (snd b k X W y c h.2).pe
      have hm := nob_of (op := p) (chk_noset h.2)
      exact ⟨PE.imp (pe_cmpR h1 ha hb hm) (bin_snd h2), fun _ => PT.imp (pt_cmpR h1 ha hb hm) (bin_tst h2), fun op l p ea => by cases ea⟩
    · cases h
  | .chn o o' a b d, k, X, W, e, c, h => by
    unfold chk at h
    split at h
    · rename_i x p q y z pos
      simp only [Bool.and_eq_true, decide_eq_true_eq] at h
      obtain ⟨r, h1, h2⟩ := cmp_ok c.un h.1.1.1.1
      obtain ⟨r', h3, h4⟩ := cmp_ok c.un h.1.1.1.2
      have ha := (snd a k X W x c h.1.1.2).pe
      have hb := (snd b k X W y c h.1.2).pe
      have hd := (snd d k X W z c h.2).pe
      have hm : lastMarks [p, q] [y, z] = false := nob_of (op := q) (chk_noset h.2)
      exact ⟨snd_chn h1 h3 h2 h4 ha hb hd hm, fun _ => snd_chnT h1 h3 h2 h4 ha hb hd hm, fun op l p ea => by cases ea⟩
    · cases h
  | .and a b, k, X, W, e, c, h => by
    unfold chk at h
    split at h
    · rename_i x y r pos
      simp only [Bool.and_eq_true] at h
      have ha := snd a k X W x c h.1.2
      cases r with
      | nil =>
        have hb := snd b k X W y c h.2
        have w := snd_andW (rest := []) (pos := pos) (ha.pt h.1.1.1) (PW.imp (pw_and1 (hb.pt h.1.1.2)) fun _ _ _ q => q)
        exact ⟨snd_and ha.pe (pe_one hb.pe), fun _ => w.pt, fun op l p ea _ => by cases ea; exact w⟩
      | cons z r =>
        have hb := snd b k X W _ c h.2
        have w := snd_andW (ha.pt h.1.1.1) (hb.pw _ _ _ rfl h.1.1.2)
        exact ⟨snd_and ha.pe hb.pe, fun _ => w.pt, fun op l p ea _ => by cases ea; exact w⟩
    · cases h
  | .or a b, k, X, W, e, c, h => by
    unfold chk at h
    split at h
    · rename_i x y r pos
      simp only [Bool.and_eq_true] at h
      have ha := snd a k X W x c h.1.2
      cases r with
      | nil =>
        have hb := snd b k X W y c h.2
        have w := snd_orW (rest := []) (pos := pos) (ha.pt h.1.1.1) (PW.imp (pw_or1 (hb.pt h.1.1.2)) fun _ _ _ q => q)
        exact ⟨snd_or ha.pe (pe_one hb.pe), fun _ => w.pt, fun op l p ea _ => by cases ea; exact w⟩
      | cons z r =>
        have hb := snd b k X W _ c h.2
        have w := snd_orW (ha.pt h.1.1.1) (hb.pw _ _ _ rfl h.1.1.2)
        exact ⟨snd_or ha.pe hb.pe, fun _ => w.pt, fun op l p ea _ => by cases ea; exact w⟩
    · cases h
  | .not a, k, X, W, e, c, h => by
    unfold chk at h
    split at h
    · rename_i x pos
      simp only [Bool.and_eq_true] at h
      have ha := snd a k X W x c h.2
      exact ⟨snd_not ha.pe, fun _ => snd_notT (ha.pt h.1), fun op l p ea => by cases ea⟩
    · cases h
  | .neg a, k, X, W, e, c, h => by
    unfold chk at h
    split at h
    · rename_i x pos
      exact ⟨snd_neg (snd a k X W x c h).pe, (fun q => by cases q), (fun op l p ea q => by cases q)⟩
    · cases h
  | .ite d a b, k, X, W, e, c, h => by
    unfold chk at h
    split at h
    · rename_i x y z pos
      simp only [Bool.and_eq_true] at h
      exact ⟨snd_ite ((snd d k X W x c h.1.1.2).pt h.1.1.1) (snd a k X W y c h.1.2).pe (snd b k X W z c h.2).pe, (fun q => by cases q), (fun op l p ea q => by cases q)⟩
    · cases h
  | .ix a b, k, X, W, e, c, h => by
    unfold chk at h
    split at h
    · rename_i x y pos
      simp only [Bool.and_eq_true] at h
      exact .of_val (snd_ix (by have := c.un; omega) (snd a k X W x c h.1.2).pe (snd b k X W y c h.2).pe h.1.1) rfl
    · cases h
  | .sl a lo hi, k, X, W, e, c, h => by
    unfold chk at h
    split at h
    · rename_i x l u p2 pos
      simp only [Bool.and_eq_true] at h
      exact .of_val (snd_sl (snd a k X W x c h.1.1).pe (snd_o lo k X W l c h.1.2) (snd_o hi k X W u c h.2)) rfl
    · cases h
  | .rev a, k, X, W, e, c, h => by
    unfold chk at h
    split at h
    · rename_i x _ _ _ _ _
      exact .of_val (snd_rev (snd a k X W x c h).pe) rfl
    · cases h
  | .tup es, k, X, W, e, c, h => by
    unfold chk at h
    split at h
    · exact .of_val (snd_tup (snd_s es k X W _ c h)) rfl
    · cases h
  | .lst es, k, X, W, e, c, h => by
    unfold chk at h
    split at h
    · exact .of_val (snd_lst (snd_s es k X W _ c h)) rfl
    · cases h
  | .dic kd ks vs, k, X, W, e, c, h => by
    unfold chk at h
    split at h
    · rename_i l r p
      simp only [Bool.and_eq_true, decide_eq_true_eq] at h
      obtain ⟨⟨⟨⟨⟨h1, h2⟩, h3⟩, h4⟩, h5⟩, h6⟩ := h
      exact .of_val (snd_dic h1 (snd_p vs k X W ks l r p h3 c h5 h1 h2) h3 h4 h5 (by rw [(chkk_keys _ _ h1).2, h3, chks_len vs k r h2]) (by simpa using h6)) rfl
    · cases h
  | .dic1 a b, k, X, W, e, c, h => by
    unfold chk at h
    split at h
    · rename_i x y p
      simp only [Bool.and_eq_true] at h
      exact .of_val (snd_dic1 (snd a k X W x c h.1).pe (snd b k X W y c h.2).pe) rfl
    · cases h
  | .call f es, k, X, W, e, c, h => by
    unfold chk at h
    split at h
    · rename_i x p l pos
      simp only [Bool.and_eq_true, decide_eq_true_eq] at h
      exact .of_val (snd_call c.tab c.tk h.1.1.1 (c.gl_ h.1.1.2) (okName_of h.1.2).1 (chks_plain es k l h.2) (evs_len es k l h.2) (evs_nil es k l h.2) (snd_s es k X W l c h.2)) rfl
    · cases h
  | .bi b es, k, X, W, e, c, h => by
    unfold chk at h
    split at h
    · rename_i x p y l pos
      simp only [Bool.and_eq_true, decide_eq_true_eq] at h
      obtain ⟨⟨h1, h2⟩, h3⟩ := h
      subst h1
      exact .of_val (snd_bi c.calm (c.tab.bt _ (bi_mem b)) (c.gl_ h2) (chks_plain es k _ h3) (snd_s es k X W _ c h3)) rfl
    · cases h
  | .isi a t, k, X, W, e, c, h => by
    unfold chk at h
    split at h
    · rename_i x p y z p2 pos
      simp only [Bool.and_eq_true, decide_eq_true_eq] at h
      obtain ⟨⟨⟨⟨⟨h1, h2⟩, h3⟩, h4⟩, h5⟩, h6⟩ := h
      subst h1 h2
      exact .of_val (snd_isi c.tab.bt (c.gl_ h3) (c.gl_ h4) h5 (snd a k X W y c h6).pe) rfl
    · cases h
  | .mt m o a, k, X, W, e, c, h => by
    unfold chk at h
    split at h
    · rename_i x n ap y cp
      simp only [Bool.and_eq_true, decide_eq_true_eq] at h
      obtain ⟨⟨⟨⟨⟨h1, h2⟩, h3⟩, h4⟩, h5⟩, h6⟩ := h
      subst h1
      exact .of_val (mt_snd c.un m (snd o k X W x c h5).pe (snd a k X W y c h6).pe h4 h3 h2) rfl
    · cases h
  | .mdin neg g a, k, X, W, e, c, h => by
    unfold chk at h
    split at h
    · rename_i x p y p2 pos
      simp only [Bool.and_eq_true, decide_eq_true_eq] at h
      obtain ⟨⟨⟨⟨h1, h2⟩, h3⟩, h4⟩, h5⟩ := h
      subst h1
      have ha := (snd a k X W x c h5).pe
      exact ⟨snd_mdin c.tab h2 (c.gl_ h3) (okName_of h4).1 ha, fun _ => snd_mdinT c.tab h2 (c.gl_ h3) (okName_of h4).1 ha, fun op l p ea => by cases ea⟩
    · cases h
  | .mdix g a, k, X, W, e, c, h => by
    unfold chk at h
    split at h
    · rename_i y p2 x pos
      simp only [Bool.and_eq_true, decide_eq_true_eq] at h
      obtain ⟨⟨⟨⟨h1, h2⟩, h3⟩, h4⟩, h5⟩ := h
      exact .of_val (snd_mdix c.tab h1 (c.gl_ h2) (okName_of h3).1 h4 (snd a k X W x c h5).pe) rfl
    · cases h
  | .lc x vs tg it cd, k, X, W, e, c, h => by
    unfold chk at h
    split at h
    · rename_i y t i ifs scope pos
      simp only [Bool.and_eq_true] at h
      obtain ⟨⟨⟨⟨⟨⟨h1, h2⟩, h3⟩, h4⟩, h5⟩, h6⟩, h7⟩ := h
      have hi := snd_i it k X W t i c h4
      have ok : BlkOk X.N X.env.scope scope (ownOf k.N vs) := by
        rw [c.hN, c.sc]
        exact blkOk_by h1
      have hfs : ∀ z, foldedSetIterable i X.env z = pure z := fun z => by cases i <;> first | rfl | (cases h3; done)
      have P := pe_lc (pos := pos) (elt := y) (wi := GI X W (evi k.T it)) (g := gOf X.K tg) (tt := GT X WF (evc k.T cd)) (te := GE X WF (ev k.T x)) c.calm (by rw [c.hN]; exact c.nd) hi ok
        (fun s H C cl fp => snd_tg (c.blk s H scope cl C fp).tg tg t h5)
        (fun s H C cl fp => snd_c cd (k.blk scope) _ _ ifs (c.blk s H scope cl C fp) h6)
        (fun s H C cl fp => (snd x (k.blk scope) _ _ y (c.blk s H scope cl C fp) h7).pe) hfs
      rw [own_snd] at P
      exact .of_val (PE.imp P (lc_use (tgIn_slots tg h2))) rfl
    · cases h
  | .dc kx x vs tg it cd, k, X, W, e, c, h => by
    unfold chk at h
    split at h
    · rename_i z y t i ifs scope pos
      simp only [Bool.and_eq_true] at h
      obtain ⟨⟨⟨⟨⟨⟨⟨h1, h2⟩, h3⟩, h4⟩, h5⟩, h6⟩, h7⟩, h8⟩ := h
      have hi := snd_i it k X W t i c h4
      have ok : BlkOk X.N X.env.scope scope (ownOf k.N vs) := by
        rw [c.hN, c.sc]
        exact blkOk_by h1
      have hfs : ∀ z, foldedSetIterable i X.env z = pure z := fun z => by cases i <;> first | rfl | (cases h3; done)
      have P := pe_dcG (pos := pos) (kx := z) (vx := y) (wi := GI X W (evi k.T it)) (g := gOf X.K tg) (tt := GT X WF (evc k.T cd)) (tk := GE X WF (ev k.T kx)) (tv := GE X WF (ev k.T x)) putOk2 c.calm (by rw [c.hN]; exact c.nd) hi ok
        (fun s H C cl fp => snd_tg (c.blk s H scope cl C fp).tg tg t h5)
        (fun s H C cl fp => snd_c cd (k.blk scope) _ _ ifs (c.blk s H scope cl C fp) h6)
        (fun s H C cl fp => (snd kx (k.blk scope) _ _ z (c.blk s H scope cl C fp) h7).pe)
        (fun s H C cl fp => (snd x (k.blk scope) _ _ y (c.blk s H scope cl C fp) h8).pe) hfs
      rw [own_snd] at P
      exact .of_val (PE.imp P (dc_use (tgIn_slots tg h2))) rfl
    · cases h
  | .lrng lo hi, k, X, W, e, c, h => by
    unfold chk at h
    split at h
    · rename_i x p y p2 l pos2 pos
      simp only [Bool.and_eq_true, decide_eq_true_eq] at h
      obtain ⟨⟨⟨⟨h1, h2⟩, h3⟩, h4⟩, h5⟩ := h
      subst h1 h2
      split at h5
      · rename_i b
        simp only [Bool.and_eq_true] at h5
        cases lo with
        | no => exact .of_val (snd_lrng1 c.calm c.tab.bt (c.gl_ h3) (c.gl_ h4) h5.1.1 (snd hi k X W b c h5.2).pe) rfl
        | so e => have := h5.1.2; unfold chko at this; cases this
      · rename_i a b
        simp only [Bool.and_eq_true] at h5
        cases lo with
        | no => have := h5.1.2; unfold chko at this; cases this
        | so e =>
          have h6 := h5.1.2
          unfold chko at h6
          exact .of_val (snd_lrng2 c.calm c.tab.bt (c.gl_ h3) (c.gl_ h4) h5.1.1.1 h5.1.1.2 (snd e k X W a c h6).pe (snd hi k X W b c h5.2).pe) rfl
      · cases h5
    · cases h
  | .sset a, k, X, W, e, c, h => by
    unfold chk at h
    split at h
    · rename_i x p y p2 z pos2 pos
      simp only [Bool.and_eq_true, decide_eq_true_eq] at h
      obtain ⟨⟨⟨⟨⟨h1, h2⟩, h3⟩, h4⟩, h5⟩, h6⟩ := h
      subst h1 h2
      exact .of_val (snd_sset' c.calm c.tab.bt (c.gl_ h3) (c.gl_ h4) h5 (snd a k X W z c h6).pe) rfl
    · cases h
theorem snd_o : ∀ (o : Eo) (k : Ck) (X : Cx) (W : WX) (a : Option Expr), CkOk k X W → chko o k a = true → PO X a (GO X W (evo k.T o))
  | .no, k, X, W, a, c, h => by
    unfold chko at h
    split at h
    · exact snd_no
    · cases h
  | .so e, k, X, W, a, c, h => by
    unfold chko at h
    split at h
    · cases h
    · rename_i x
      exact snd_so (snd e k X W x c h).pe
theorem snd_c : ∀ (o : Eo) (k : Ck) (X : Cx) (W : WX) (l : List Expr), CkOk k X W → chkc o k l = true → PTs X l (GT X W (evc k.T o))
  | .no, k, X, W, l, c, h => by
    unfold chkc at h
    split at h
    · exact ⟨fun pins s σ H Q I ⟨ρ, Z, FP, e, o⟩ => (pts_nil (X := X)).run pins s σ H Q I (out_ok (show Out X W H Z σ _ (.ok true) from o) .refl)⟩
    · cases h
  | .so e, k, X, W, l, c, h => by
    unfold chkc at h
    split at h
    · rename_i x
      simp only [Bool.and_eq_true] at h
      exact pts_one ((snd e k X W x c h.2).pt h.1)
    · cases h
theorem snd_s : ∀ (es : Es) (k : Ck) (X : Cx) (W : WX) (l : List Expr), CkOk k X W → chks es k l = true → PA X l (GA X W (evs k.T es))
  | .nil, k, X, W, l, c, h => by
    unfold chks at h
    split at h
    · exact snd_anil
    · cases h
  | .cons e es, k, X, W, l, c, h => by
    unfold chks at h
    split at h
    · rename_i x r
      simp only [Bool.and_eq_true] at h
      exact snd_acons h.1.1 (snd e k X W x c h.1.2).pe (snd_s es k X W r c h.2)
    · cases h
theorem snd_p : ∀ (es : Es) (k : Ck) (X : Cx) (W : WX) (ks : List D) (l : List (Option Expr)) (r : List Expr) (pos : Pos), l.length = r.length → CkOk k X W → ks.all (kOk 0) = true → chkk ks l = true → chks es k r = true → PPs X pos l r (prs X W k.T ks es)
  | .nil, k, X, W, ks, l, r, pos, hl, c, h0, h1, h2 => by
    unfold chks at h2
    split at h2
    · cases ks with
      | nil =>
        rw [chkk_nil h1]
        exact pps_nil
      | cons d ds =>
        obtain ⟨q, j, p, t, e, h3, h4⟩ := chkk_cons h1
        rw [e] at hl; cases hl
    · cases h2
  | .cons e es, k, X, W, ks, l, r, pos, hl, c, h0, h1, h2 => by
    unfold chks at h2
    split at h2
    · rename_i x t
      simp only [Bool.and_eq_true] at h2
      cases ks with
      | nil => rw [chkk_nil h1] at hl; cases hl
      | cons d ds =>
        rw [List.all_cons, Bool.and_eq_true] at h0
        obtain ⟨q, j, p, t', el, h3, h4⟩ := chkk_cons h1
        subst el
        rw [prs_cons h0.1]
        exact pps_cons (con_key h3 h0.1) (snd e k X W x c h2.1.2).pe (snd_p es k X W ds t' t pos (by simpa using hl) c h0.2 h4 h2.2)
    · cases h2
theorem snd_i : ∀ (it : It) (k : Ck) (X : Cx) (W : WX) (t i : Expr), CkOk k X W → chki it k t i = true → PI X t i (GI X W (evi k.T it))
  | .of e, k, X, W, t, i, c, h => by
    unfold chki at h
    exact snd_of (snd e k X W i c h).pe
  | .rng es, k, X, W, t, i, c, h => by
    unfold chki at h
    split at h
    · rename_i x p l pos
      simp only [Bool.and_eq_true, decide_eq_true_eq] at h
      obtain ⟨⟨⟨h1, h2⟩, h3⟩, h4⟩ := h
      subst h1
      exact snd_rng (c.tab.bt _ (by decide)) (c.gl_ h2) h4 (chks_plain es k l h3) (evs_len es k l h3) (evs_nil es k l h3) (snd_s es k X W l c h3)
    · cases h
  | .enm e, k, X, W, t, i, c, h => by
    unfold chki at h
    split at h
    · rename_i elts kk tpos x p y pos
      simp only [Bool.and_eq_true, decide_eq_true_eq] at h
      obtain ⟨⟨⟨h1, h2⟩, h3⟩, h4⟩ := h
      subst h1
      exact snd_enm (c.tab.bt _ (by decide)) (c.gl_ h2) h3 (snd e k X W y c h4).pe
    · cases h
end
end Pi

set_option Elab.async false
set_option linter.all false
set_option maxRecDepth 100000
set_option maxHeartbeats 4000000
/-! Pi18: statements: the language, its meaning, the frame. -/
namespace Pi
open PySem PySem.Spec PyProof.Rows L2
inductive Fl where
  | nx (ρ : Rho) | bk (ρ : Rho) | ct (ρ : Rho) | rt (m : Mo) (d : D)
mutual
inductive S where
  | skip
  | set (i : Nat) (own : Bool) (e : E)
  | asg (t : Tg) (e : E)
  | par (is : List (Nat × Bool)) (es : Es)
  | aug (i : Nat) (o : Op) (e : E)
  | setI (i : Nat) (key e : E)
  | put2 (i : Nat) (k1 : E) (j : Nat) (k2 : E) (e : E)
  | xp (e : E)
  | app (i : Nat) (e : E)
  | ext (i : Nat) (e : E)
  | upd (i : Nat) (e : E)
  | setd (i : Nat) (key e : E)
  | ret (e : E) | retN
  | ite (c : E) (a b : Ss)
  | for (t : Tg) (it : It) (b : Ss)
  | brk | cnt
  | raise (g : Nat)
  | try1 (g : Nat) (e : E)
inductive Ss where
  | nil
  | cons (s : S) (r : Ss)
  | frz (i : Nat) (r : Ss)
end
/-- the slot's new content -/
def setV (ρ : Rho) (i : Nat) (own : Bool) (x : Mo × D) : Res Rho := if i < ρ.length then (match x.1 with
  | .fz => .ok (ρ.set i (some (false, x.2)))
  | .ow => .ok (ρ.set i (some (own, x.2)))
  | .bo => .st) else .st
def setVs : Rho → List (Nat × Bool) → List (Mo × D) → Res Rho
  | ρ, [], [] => .ok ρ
  | ρ, (i, w) :: r, x :: xs => setV ρ i w x >>= fun ρ => setVs ρ r xs
  | _, _, _ => .st
/-- an own list of atoms, an own dict of atoms -/
def ownL (ρ : Rho) (i : Nat) : Res (List D) := match ρ[i]? with
  | some (some (true, .lst ds)) => if ds.all D.atom = true then .ok ds else .st
  | _ => .st
def ownD (ρ : Rho) (i : Nat) : Res (Nat × List D × List D) := match ρ[i]? with
  | some (some (true, .dic k ks vs)) => if vs.all D.atom = true then .ok (k, ks, vs) else .st
  | _ => .st
def putO (ρ : Rho) (i : Nat) (d : D) : Rho := ρ.set i (some (true, d))
def appG (ds : List D) (x : Mo × D) : Res (List D) := if x.2.atom = true ∧ ds.length < sizeLine then .ok (ds ++ [x.2]) else .st
def extG (ds : List D) (x : Mo × D) : Res (List D) := match x.2 with
  | .lst es => if es.all D.atom = true ∧ ds.length + es.length ≤ sizeLine then .ok (ds ++ es) else .st
  | _ => .st
def dsetG (k : Nat) (ks vs : List D) (key x : Mo × D) : Res D := if kOk k key.2 = true ∧ x.2.atom = true ∧ ks.length < sizeLine then .ok (.dic k (dput ks vs key.2 x.2).1 (dput ks vs key.2 x.2).2) else .st
def lsetG (ds : List D) (key x : Mo × D) : Res (List D) := match key.2 with
  | .int i => if x.2.atom = true then (match L2.ixN ds.length i with | some j => .ok (ds.set j x.2) | none => .st) else .st
  | _ => .st
def augG (o : Op) (a b : D) : Option D := match o, a, b with
  | .add, .int i, .int j => some (.int (i + j))
  | .sub, .int i, .int j => some (.int (i - j))
  | .mul, .int i, .int j => if (-(2 ^ 64) < i ∧ i < 2 ^ 64) ∨ (-(2 ^ 64) < j ∧ j < 2 ^ 64) then some (.int (i * j)) else none
  | _, _, _ => none
def dsetd (k : Nat) (ks vs : List D) (key x : Mo × D) : Res D := if kmem ks key.2 = true then (if kOk k key.2 = true ∧ ks.length < sizeLine then .ok (.dic k ks vs) else .st) else dsetG k ks vs key x
def updG (k : Nat) (ks vs : List D) (x : Mo × D) : Res D := match x.2 with
  | .dic 0 ls ws => if k = 0 ∧ x.1 ≠ .bo ∧ ws.all D.atom = true ∧ ks.length + ls.length ≤ sizeLine ∧ ls.length = ws.length then .ok (.dic 0 (dputs ls ws (ks, vs)).1 (dputs ls ws (ks, vs)).2) else .st
  | _ => .st
def retG (x : Mo × D) : Res Fl := match x.1 with
  | .fz => .ok (.rt .fz x.2)
  | _ => .ok (.rt .ow x.2)
/-- raise, by the name of the class -/
def erG (T : Tab) (ex : List Str) (g : Nat) : Res Fl := match ex[g]? with
  | some c => .er c .non
  | none => .st
def exFor (f : Rho → Res Fl) (t : Tg) : List D → Rho → Res Fl
  | [], ρ => .ok (.nx ρ)
  | d :: r, ρ => match bindT t d ρ with
    | none => .st
    | some ρ1 => f ρ1 >>= fun fl => match fl with
      | .nx ρ2 => exFor f t r ρ2
      | .ct ρ2 => exFor f t r ρ2
      | .bk ρ2 => .ok (.nx ρ2)
      | .rt m d => .ok (.rt m d)
/-- an entry of an own dict -/
def putD (fk : Rho → Res (Mo × D)) (i : Nat) (x : D) (ρ : Rho) : Res Rho := ownD ρ i >>= fun d => fk ρ >>= fun k => dsetG d.1 d.2.1 d.2.2 k (.fz, x) >>= fun d => .ok (putO ρ i d)
def two (x : Mo × D) : Res (D × D) := match x with
  | (.fz, .tup [a, b]) => .ok (a, b)
  | _ => .st
/-- the classes that may be raised; (g, h): whether class g is caught by a clause of class h -/
structure Xs where
  ex : List Str
  sub : List (Nat × Nat)
mutual
def exS (T : Tab) (xs : Xs) : S → Rho → Res Fl
  | .skip, ρ => .ok (.nx ρ)
  | .set i own e, ρ => ev T e ρ >>= fun x => setV ρ i own x >>= fun ρ => .ok (.nx ρ)
  | .asg t e, ρ => ev T e ρ >>= fun x => if x.1 = .fz then (match bindT t x.2 ρ with | some ρ => .ok (.nx ρ) | none => .st) else .st
  | .par is es, ρ => evs T es ρ >>= fun as => setVs ρ is as >>= fun ρ => .ok (.nx ρ)
  | .aug i o e, ρ => match ρ[i]? with
    | some (some (false, .int j)) => ev T e ρ >>= fun y => (match augG o (.int j) y.2 with | some z => .ok (.nx (ρ.set i (some (false, z)))) | none => .st)
    | _ => .st
  | .setI i key e, ρ => ev T e ρ >>= fun x => match ρ[i]? with
    | some (some (true, .lst _)) => ownL ρ i >>= fun ds => ev T key ρ >>= fun k => lsetG ds k x >>= fun ds => .ok (.nx (putO ρ i (.lst ds)))
    | some (some (true, .dic _ _ _)) => ownD ρ i >>= fun d => ev T key ρ >>= fun k => dsetG d.1 d.2.1 d.2.2 k x >>= fun d => .ok (.nx (putO ρ i d))
    | _ => .st
  | .put2 i k1 j k2 e, ρ => ev T e ρ >>= fun x => two x >>= fun p => putD (fun ρ => ev T k1 ρ) i p.1 ρ >>= fun ρ => putD (fun ρ => ev T k2 ρ) j p.2 ρ >>= fun ρ => .ok (.nx ρ)
  | .xp e, ρ => ev T e ρ >>= fun _ => .ok (.nx ρ)
  | .app i e, ρ => ownL ρ i >>= fun ds => ev T e ρ >>= fun x => appG ds x >>= fun ds => .ok (.nx (putO ρ i (.lst ds)))
  | .ext i e, ρ => ownL ρ i >>= fun ds => ev T e ρ >>= fun x => extG ds x >>= fun ds => .ok (.nx (putO ρ i (.lst ds)))
  | .upd i e, ρ => ownD ρ i >>= fun d => ev T e ρ >>= fun x => updG d.1 d.2.1 d.2.2 x >>= fun d => .ok (.nx (putO ρ i d))
  | .setd i key e, ρ => ownD ρ i >>= fun d => ev T key ρ >>= fun k => ev T e ρ >>= fun x => dsetd d.1 d.2.1 d.2.2 k x >>= fun d => .ok (.nx (putO ρ i d))
  | .ret e, ρ => ev T e ρ >>= fun x => retG x
  | .retN, ρ => .ok (.rt .fz .non)
  | .ite c a b, ρ => ev T c ρ >>= fun x => toB x >>= fun k => if k = true then exs T xs a ρ else exs T xs b ρ
  | .for t it b, ρ => evi T it ρ >>= fun l => exFor (fun ρ => exs T xs b ρ) t l ρ
  | .brk, ρ => .ok (.bk ρ)
  | .cnt, ρ => .ok (.ct ρ)
  | .raise g, ρ => erG T xs.ex g
  | .try1 g e, ρ => match ev T e ρ with
    | .ok x => retG x
    | .er c p => match xs.ex[g]? with
      | some h => if c = h then .ok (.rt .fz .non) else .st
      | none => .st
    | .st => .st
def exs (T : Tab) (xs : Xs) : Ss → Rho → Res Fl
  | .nil, ρ => .ok (.nx ρ)
  | .cons s r, ρ => exS T xs s ρ >>= fun fl => match fl with
    | .nx ρ => exs T xs r ρ
    | fl => .ok fl
  | .frz i r, ρ => match ρ[i]? with
    | some (some (_, d)) => exs T xs r (ρ.set i (some (false, d)))
    | _ => .st
end
/-- a def's meaning -/
def runF (T : Tab) (xs : Xs) (n : Nat) (b : Ss) (ds : List D) : Res (Mo × D) := exs T xs b (ds.map (fun d => some (false, d)) ++ List.replicate (n - ds.length) none) >>= fun fl => match fl with
  | .nx _ => .ok (.fz, .non)
  | .rt m d => .ok (m, d)
  | _ => .st

/-! ### the frame of a def -/
structure SI (K : Fr) (H0 : Hp) (Z0 : Addr → Prop) (H : Hp) (Z : Addr → Prop) (ρ : Rho) (σ : Pi.St) (FP : Nat → List Addr) : Prop where
  env : EnvOk K H Z ρ σ FP
  ext : Ext H0 Z0 H Z
  new : ∀ (i : Nat) (a : Addr), a ∈ FP i → H0 a = none
def OutS (X : Cx) (W : WX) (D : Ends) (H0 : Hp) (Z0 : Addr → Prop) (H : Hp) (Z : Addr → Prop) : Res Fl → Prop
  | .ok (.nx ρ') => ∀ H' Z' σ' FP', SI X.fr H0 Z0 H' Z' ρ' σ' FP' → Kp X.fr Z H H' → (∀ a, Z a → Z' a) → D.nx σ' H'
  | .ok (.bk ρ') => ∀ H' Z' σ' FP', SI X.fr H0 Z0 H' Z' ρ' σ' FP' → Kp X.fr Z H H' → (∀ a, Z a → Z' a) → D.bk σ' H'
  | .ok (.ct ρ') => ∀ H' Z' σ' FP', SI X.fr H0 Z0 H' Z' ρ' σ' FP' → Kp X.fr Z H H' → (∀ a, Z a → Z' a) → D.ct σ' H'
  | .ok (.rt m d) => m ≠ .bo ∧ ∀ v H' Z', Ext H0 Z0 H' Z' → ResOk X.fr H0 H' Z' (fun _ => []) m d v → D.rt v H'
  | .er c _ => ∀ σ' H' Z', Ext H0 Z0 H' Z' → W (clsV X c) none σ' H'
  | .st => False
def GS (X : Cx) (W : WX) (f : Rho → Res Fl) : TS := fun D σ H => ∃ ρ Z FP H0 Z0, SI X.fr H0 Z0 H Z ρ σ FP ∧ OutS X W D H0 Z0 H Z (f ρ)
section
variable {X : Cx} {W : WX} {D : Ends} {H0 H H1 : Hp} {Z0 Z Z1 : Addr → Prop} {ρ : Rho} {σ : Pi.St} {FP : Nat → List Addr} {α : Type}
theorem OutS.step {r : Res Fl} (h : OutS X W D H0 Z0 H Z r) (k : Kp X.fr Z H H1) (z : ∀ a, Z a → Z1 a) : OutS X W D H0 Z0 H1 Z1 r := by
  cases r with
  | ok fl =>
    cases fl with
    | nx ρ' => exact fun H' Z' σ' FP' s k' z' => h H' Z' σ' FP' s (k.trans k' z) fun a q => z' a (z a q)
    | bk ρ' => exact fun H' Z' σ' FP' s k' z' => h H' Z' σ' FP' s (k.trans k' z) fun a q => z' a (z a q)
    | ct ρ' => exact fun H' Z' σ' FP' s k' z' => h H' Z' σ' FP' s (k.trans k' z) fun a q => z' a (z a q)
    | rt m d => exact h
  | er c p => exact h
  | st => exact h
theorem OutS.ex {R : α → Hp → (Addr → Prop) → Prop} {r : Res α} {k : α → Res Fl} (x : Ext H0 Z0 H Z) (h : OutS X W D H0 Z0 H Z (r >>= k)) (c : ∀ a H1 Z1, r = .ok a → Ext H Z H1 Z1 → OutS X W D H0 Z0 H Z (k a) → R a H1 Z1) : Out X W H Z σ R r := by
  cases r with
  | ok a => exact fun H1 Z1 e => c a H1 Z1 rfl e h
  | er c p => exact fun H1 Z1 e => h σ H1 Z1 (x.trans e)
  | st => exact h
theorem SI.step (s : SI X.fr H0 Z0 H Z ρ σ FP) (e : Ext H Z H1 Z1) : SI X.fr H0 Z0 H1 Z1 ρ σ FP := ⟨e.env s.env, s.ext.trans e, s.new⟩
/-- the next statement -/
theorem OutS.seq {r : Res Fl} {k : Rho → Res Fl} {u : TS} {D : Ends} (s : SI X.fr H0 Z0 H Z ρ σ FP) (h : OutS X W D H0 Z0 H Z (r >>= fun fl => match fl with | .nx ρ => k ρ | fl => .ok fl))
    (hu : ∀ D σ H, GS X W k D σ H → u D σ H) : OutS X W { D with nx := u D } H0 Z0 H Z r := by
  cases r with
  | ok fl =>
    cases fl with
    | nx ρ' =>
      have h : OutS X W D H0 Z0 H Z (k ρ') := h
      exact fun H' Z' σ' FP' s' kp z' => hu D σ' H' ⟨ρ', Z', FP', H0, Z0, s', h.step kp z'⟩
    | bk ρ' => exact h
    | ct ρ' => exact h
    | rt m d => exact h
  | er c p => exact h
  | st => exact h
end
end Pi

set_option Elab.async false
set_option linter.all false
set_option maxRecDepth 100000
set_option maxHeartbeats 4000000
/-! Pi19: slots that are set, own lists that are written. -/
namespace Pi
open PySem PySem.Spec PyProof.Rows L2
section
variable {K : Fr} {H H0 H1 : Hp} {Z Z0 Z1 : Addr → Prop} {ρ : Rho} {σ : Pi.St} {FP : Nat → List Addr}
theorem EnvOk.setOwn (e : EnvOk K H Z ρ σ FP) {i : Nat} {d : D} {v : V} {G : List Addr} (hi : i < ρ.length) (o : Own K H Z d G v) (dj : ∀ j, j ≠ i → ∀ a ∈ FP j, a ∉ G) : EnvOk K H Z (putO ρ i d) (σ.set i (some v)) (fun j => if j = i then G else FP j) := by
  have hj : ∀ {j : Nat}, j ≠ i → (putO ρ i d)[j]? = ρ[j]? := fun {j} h => List.getElem?_set_ne (Ne.symm h)
  have hs : ∀ {j : Nat}, j ≠ i → (σ.set i (some v))[j]? = σ[j]? := fun {j} h => List.getElem?_set_ne (Ne.symm h)
  have hi2 : (putO ρ i d)[i]? = some (some (true, d)) := List.getElem?_set_self hi
  have hs2 : (σ.set i (some v))[i]? = some (some v) := List.getElem?_set_self (by rw [← e.len]; exact hi)
  refine ⟨by simp [putO, e.len], fun j d' h => ?_, fun j d' h => ?_, fun j a h => ?_, e.zd, fun j j' a h h' => ?_⟩
  · by_cases hji : j = i
    · subst hji
      rw [hi2] at h
      cases h
    · rw [hj hji] at h
      obtain ⟨w, h1, h2⟩ := e.fz j d' h
      exact ⟨w, by rw [hs hji]; exact h1, h2⟩
  · by_cases hji : j = i
    · subst hji
      rw [hi2] at h
      cases h
      rw [if_pos rfl]
      exact ⟨v, hs2, o⟩
    · rw [hj hji] at h
      obtain ⟨w, h1, h2⟩ := e.ow j d' h
      refine ⟨w, by rw [hs hji]; exact h1, ?_⟩
      rw [if_neg hji]
      exact h2
  · by_cases hji : j = i
    · rw [hji]
      exact ⟨d, hi2⟩
    · rw [if_neg hji] at h
      rw [hj hji]
      exact e.emp j a h
  · by_cases hji : j = i
    · by_cases hji' : j' = i
      · rw [hji, hji']
      · rw [if_pos hji] at h
        rw [if_neg hji'] at h'
        exact absurd h (dj j' hji' a h')
    · by_cases hji' : j' = i
      · rw [if_neg hji] at h
        rw [if_pos hji'] at h'
        exact absurd h' (dj j hji a h)
      · rw [if_neg hji] at h
        rw [if_neg hji'] at h'
        exact e.dis j j' a h h'
/-- an own list or dict is rewritten at its own place -/
theorem EnvOk.write (e : EnvOk K H Z ρ σ FP) {i : Nat} {d : D} {v : V} {l : Addr} {o : HO} (hi : i < ρ.length) (hl : l ∈ FP i) (hv : σ[i]? = some (some v)) (ow : Own K (upd H l o) Z d (FP i) v) : EnvOk K (upd H l o) Z (putO ρ i d) σ FP ∧ Kp K Z H (upd H l o) := by
  obtain ⟨nz, u, hu, hc⟩ := e.dom hl
  have kp : Kp K Z H (upd H l o) := Kp.upd nz (Cont.noTup hu hc)
  have hj : ∀ {j : Nat}, j ≠ i → (putO ρ i d)[j]? = ρ[j]? := fun {j} h => List.getElem?_set_ne (Ne.symm h)
  have hi2 : (putO ρ i d)[i]? = some (some (true, d)) := List.getElem?_set_self hi
  refine ⟨⟨by simp [putO, e.len], fun j d' h => ?_, fun j d' h => ?_, fun j a h => ?_, fun a z => ?_, e.dis⟩, kp⟩
  · by_cases hji : j = i
    · subst hji
      rw [hi2] at h
      cases h
    · rw [hj hji] at h
      obtain ⟨w, h1, h2⟩ := e.fz j d' h
      exact ⟨w, h1, Rep.kp kp (fun _ h => h) _ _ h2⟩
  · by_cases hji : j = i
    · subst hji
      rw [hi2] at h
      cases h
      exact ⟨v, hv, ow⟩
    · rw [hj hji] at h
      obtain ⟨w, h1, h2⟩ := e.ow j d' h
      refine ⟨w, h1, Own.kp kp (fun _ h => h) _ _ _ (fun a ha => ?_) (fun a ha => (e.dom ha).1) h2⟩
      refine upd_ne fun ea => ?_
      subst ea
      exact hji (e.dis j i a ha hl)
  · by_cases hji : j = i
    · rw [hji]
      exact ⟨d, hi2⟩
    · rw [hj hji]
      exact e.emp j a h
  · have : a ≠ l := fun ea => nz (ea ▸ z)
    rw [upd_ne this]
    exact e.zd a z
/-- what is new to a def's frame, at a step -/
structure Nw (H0 : Hp) (FP : Nat → List Addr) (G : List Addr) : Prop where
  new : ∀ a ∈ G, H0 a = none
  off : ∀ j, ∀ a ∈ FP j, a ∉ G
/-- one slot is set -/
theorem SI.setV (s : SI K H0 Z0 H Z ρ σ FP) {i : Nat} {own : Bool} {m : Mo} {d : D} {v : V} {G : List Addr} {ρ' : Rho} (hm : m = .fz ∧ G = [] ∧ Rep K H Z d v ∨ m = .ow ∧ Own K H Z d G v) (nw : Nw H0 FP G) (h : Pi.setV ρ i own (m, d) = .ok ρ') :
    ∃ Z2 FP2, SI K H0 Z0 H Z2 ρ' (σ.set i (some v)) FP2 ∧ (∀ a, Z a → Z2 a) ∧ (∀ a, Z2 a → Z a ∨ a ∈ G) ∧ ∀ j, ∀ a ∈ FP2 j, a ∈ FP j ∨ a ∈ G := by
  unfold Pi.setV at h
  split at h
  · rename_i hi
    rcases hm with ⟨hm, hG, r⟩ | ⟨hm, o⟩
    · subst hm
      cases h
      refine ⟨Z, _, ⟨s.env.set hi r, s.ext, fun j a ha => ?_⟩, fun _ h => h, fun _ h => .inl h, fun j a ha => ?_⟩
      · by_cases hji : j = i
        · rw [if_pos hji] at ha; simp at ha
        · rw [if_neg hji] at ha; exact s.new j a ha
      · by_cases hji : j = i
        · rw [if_pos hji] at ha; simp at ha
        · rw [if_neg hji] at ha; exact .inl ha
    · subst hm
      cases own with
      | true =>
        cases h
        refine ⟨Z, _, ⟨s.env.setOwn hi o (fun j _ a ha => nw.off j a ha), s.ext, fun j a ha => ?_⟩, fun _ h => h, fun _ h => .inl h, fun j a ha => ?_⟩
        · by_cases hji : j = i
          · rw [if_pos hji] at ha; exact nw.new a ha
          · rw [if_neg hji] at ha; exact s.new j a ha
        · by_cases hji : j = i
          · rw [if_pos hji] at ha; exact .inr ha
          · rw [if_neg hji] at ha; exact .inl ha
      | false =>
        cases h
        have ht : ∀ a ∈ G, H a ≠ none := fun a ha => by
          obtain ⟨_, u, hu, _⟩ := Own.dom d G v o a ha
          rw [hu]; simp
        have ef : EnvOk K H (fun a => Z a ∨ a ∈ G) ρ σ FP := s.env.kp .refl (fun a h => .inl h) (fun a h => h.elim (s.env.zd a) (ht a)) (fun _ _ _ => rfl) fun j a ha h => h.elim (s.env.dom ha).1 (nw.off j a ha)
        refine ⟨fun a => Z a ∨ a ∈ G, _, ⟨ef.set hi (Own.rep (fun a h => .inl h) d G v (fun a h => .inr h) o), Ext.freeze s.ext nw.new ht, fun j a ha => ?_⟩, fun _ h => .inl h, fun _ h => h, fun j a ha => ?_⟩
        · by_cases hji : j = i
          · rw [if_pos hji] at ha; simp at ha
          · rw [if_neg hji] at ha; exact s.new j a ha
        · by_cases hji : j = i
          · rw [if_pos hji] at ha; simp at ha
          · rw [if_neg hji] at ha; exact .inl ha
  · cases h
end
section
variable {X : Cx} {W : WX} {D : Ends} {H0 H H1 : Hp} {Z0 Z Z1 : Addr → Prop} {ρ : Rho} {σ : Pi.St} {FP : Nat → List Addr} {f : Rho → Res (Mo × Pi.D)} {g : Rho → Res (List (Mo × Pi.D))}
theorem OutS.bind_ok {α β : Type} {R : Res Fl → Prop} {r : Res α} {k : α → Res Fl} (h : OutS X W D H0 Z0 H Z (r >>= k)) (hne : ∀ c p, r ≠ .er c p) : ∃ a, r = .ok a ∧ OutS X W D H0 Z0 H Z (k a) := by
  cases r with
  | ok a => exact ⟨a, rfl, h⟩
  | er c p => exact absurd rfl (hne c p)
  | st => exact h.elim
theorem setV_ne {ρ : Rho} {i : Nat} {own : Bool} {x : Mo × Pi.D} (c : Str) (p : Pi.D) : Pi.setV ρ i own x ≠ .er c p := by
  unfold Pi.setV
  split
  · split <;> exact fun h => nomatch h
  · exact fun h => nomatch h
theorem snd_set {i : Nat} {own : Bool} (D : Ends) (σ : Pi.St) (H : Hp) (h : GS X W (fun ρ => f ρ >>= fun x => setV ρ i own x >>= fun ρ => .ok (.nx ρ)) D σ H) : tAsg (GE X W f) (gName i) D σ H := by
  obtain ⟨ρ, Z, FP, H0, Z0, s, o⟩ := h
  refine ⟨ρ, Z, FP, s.env, OutS.ex s.ext o fun x H1 Z1 _ x1 o1 v r1 => ?_⟩
  obtain ⟨ρ', hs, o2⟩ := OutS.bind_ok (R := fun _ => True) (β := Unit) o1 setV_ne
  have s1 := s.step x1
  obtain ⟨m, d⟩ := x
  have key : ∃ G, (m = .fz ∧ G = [] ∧ Rep X.fr H1 Z1 d v ∨ m = .ow ∧ Own X.fr H1 Z1 d G v) ∧ Nw H0 FP G := by
    cases m with
    | fz => exact ⟨[], .inl ⟨rfl, rfl, r1⟩, fun a h => by simp at h, fun j a _ h => by simp at h⟩
    | ow =>
      obtain ⟨G, g1, g2⟩ := r1
      refine ⟨G, .inr ⟨rfl, g1⟩, fun a ha => s.ext.same.free (g2 a ha), fun j a ha h => ?_⟩
      obtain ⟨_, u, hu, _⟩ := s.env.dom ha
      rw [g2 a h] at hu; cases hu
    | bo =>
      unfold Pi.setV at hs
      split at hs <;> cases hs
  obtain ⟨G, k1, nw⟩ := key
  obtain ⟨Z2, FP2, s2, z2, _, _⟩ := s1.setV k1 nw hs
  exact o2 H1 Z2 _ FP2 s2 x1.kp fun a h => z2 a (x1.z a h)
/-- t = e, a target with several names -/
theorem snd_asg {t : Tg} (D : Ends) (σ : Pi.St) (H : Hp) (h : GS X W (fun ρ => f ρ >>= fun x => if x.1 = .fz then (match bindT t x.2 ρ with | some ρ => .ok (.nx ρ) | none => .st) else .st) D σ H) : tAsg (GE X W f) (gOf X.K t) D σ H := by
  obtain ⟨ρ, Z, FP, H0, Z0, s, o⟩ := h
  refine ⟨ρ, Z, FP, s.env, OutS.ex s.ext o fun x H1 Z1 _ x1 o1 v r1 => ?_⟩
  obtain ⟨m, d⟩ := x
  cases m with
  | fz =>
    replace o1 : OutS X W D H0 Z0 H Z (match bindT t d ρ with | some ρ => .ok (.nx ρ) | none => .st) := o1
    cases hb : bindT t d ρ with
    | none => rw [hb] at o1; exact o1.elim
    | some ρ2 =>
      rw [hb] at o1
      have s1 := s.step x1
      refine gOf_use t d v ρ ρ2 σ FP _ s1.env r1 hb fun σ2 FP2 e2 f2 _ _ => ?_
      exact o1 H1 Z1 σ2 FP2 ⟨e2, s1.ext, fun i a ha => s.new i a (f2 i a ha)⟩ x1.kp x1.z
  | ow => exact o1.elim
  | bo => exact o1.elim
theorem snd_if {c : Rho → Res (Mo × Pi.D)} {a b : Rho → Res Fl} (D : Ends) (σ : Pi.St) (H : Hp) (h : GS X W (fun ρ => c ρ >>= fun x => toB x >>= fun k => if k = true then a ρ else b ρ) D σ H) : tIfS (GT X W (fT c)) (GS X W a) (GS X W b) D σ H := by
  obtain ⟨ρ, Z, FP, H0, Z0, s, o⟩ := h
  replace o : OutS X W D H0 Z0 H Z (fT c ρ >>= fun k => if k = true then a ρ else b ρ) := by
    show OutS X W D H0 Z0 H Z ((c ρ >>= fun z => toB z) >>= _)
    rw [res_assoc]; exact o
  refine ⟨ρ, Z, FP, s.env, OutS.ex s.ext o fun k H1 Z1 _ x1 o1 => ?_⟩
  cases k with
  | true => exact ⟨ρ, Z1, FP, H0, Z0, s.step x1, o1.step x1.kp x1.z⟩
  | false => exact ⟨ρ, Z1, FP, H0, Z0, s.step x1, o1.step x1.kp x1.z⟩
theorem snd_ret (D : Ends) (σ : Pi.St) (H : Hp) (h : GS X W (fun ρ => f ρ >>= fun x => retG x) D σ H) : tRet (GE X W f) D σ H := by
  obtain ⟨ρ, Z, FP, H0, Z0, s, o⟩ := h
  refine ⟨ρ, Z, FP, s.env, OutS.ex s.ext o fun x H1 Z1 _ x1 o1 v r1 => ?_⟩
  obtain ⟨m, d⟩ := x
  have xt := s.ext.trans x1
  cases m with
  | fz => exact o1.2 v H1 Z1 xt r1
  | ow =>
    obtain ⟨G, g1, g2⟩ := r1
    exact o1.2 v H1 Z1 xt ⟨G, g1, fun a ha => s.ext.same.free (g2 a ha)⟩
  | bo =>
    obtain ⟨G, g1, g2⟩ := r1
    exact o1.2 v H1 Z1 xt ⟨G, g1, fun a ha => by obtain ⟨i, hi⟩ := g2 a ha; exact s.new i a hi⟩
theorem snd_retN (D : Ends) (σ : Pi.St) (H : Hp) (h : GS X W (fun _ => .ok (.rt .fz .non)) D σ H) : tRetN D σ H := by
  obtain ⟨ρ, Z, FP, H0, Z0, s, o⟩ := h
  exact o.2 .non H Z s.ext (by show Rep _ _ _ _ _; simp only [Rep])
theorem snd_nx (D : Ends) (σ : Pi.St) (H : Hp) (h : GS X W (fun ρ => .ok (.nx ρ)) D σ H) : tNext D σ H := by
  obtain ⟨ρ, Z, FP, H0, Z0, s, o⟩ := h
  exact o H Z σ FP s .refl fun _ h => h
theorem snd_brk (D : Ends) (σ : Pi.St) (H : Hp) (h : GS X W (fun ρ => .ok (.bk ρ)) D σ H) : tBreak D σ H := by
  obtain ⟨ρ, Z, FP, H0, Z0, s, o⟩ := h
  exact o H Z σ FP s .refl fun _ h => h
theorem snd_cnt (D : Ends) (σ : Pi.St) (H : Hp) (h : GS X W (fun ρ => .ok (.ct ρ)) D σ H) : tCont D σ H := by
  obtain ⟨ρ, Z, FP, H0, Z0, s, o⟩ := h
  exact o H Z σ FP s .refl fun _ h => h
end
end Pi

set_option Elab.async false
set_option linter.all false
set_option maxRecDepth 100000
set_option maxHeartbeats 4000000
/-! Pi20: for loops; own lists and dicts that are written. -/
namespace Pi
open PySem PySem.Spec PyProof.Rows L2
section
variable {X : Cx} {W : WX} {D : Ends} {H0 H H1 : Hp} {Z0 Z Z1 : Addr → Prop} {ρ : Rho} {σ : Pi.St} {FP : Nat → List Addr} {f fe fk : Rho → Res (Mo × Pi.D)} {g : Rho → Res (List (Mo × Pi.D))}
theorem snd_for {t : Tg} {fi : Rho → Res (List Pi.D)} {fb : Rho → Res Fl} (D : Ends) (σ : Pi.St) (H : Hp) (h : GS X W (fun ρ => fi ρ >>= fun l => exFor fb t l ρ) D σ H) : tFor (GI X W fi) (gOf X.K t) (GS X W fb) D σ H := by
  obtain ⟨ρ, Z, FP, H0, Z0, s, o⟩ := h
  refine ⟨ρ, Z, FP, s.env, OutS.ex s.ext o fun l H1 Z1 _ x1 o1 J wk => ?_⟩
  refine for_it wk (fun i σ' Hh => ∃ ρ' Zc FP', SI X.fr H0 Z0 Hh Zc ρ' σ' FP' ∧ Kp X.fr Z1 H1 Hh ∧ (∀ a, Z1 a → Zc a) ∧ OutS X W D H0 Z0 Hh Zc (exFor fb t (l.drop i) ρ'))
    ⟨ρ, Z1, FP, s.step x1, .refl, fun _ h => h, by rw [List.drop_zero]; exact o1.step x1.kp x1.z⟩ (fun i σ' Hh _ ⟨_, _, _, _, k, _⟩ => k) ?_ ?_
  · rintro i x σ' Hh H' hi ⟨ρ', Zc, FP', s', kp, zs, o'⟩ ⟨d, hd, rd, hH'⟩
    have xh : Ext Hh Zc H' Zc := by
      rcases hH' with eh | ⟨T, oo, hT, eh⟩
      · rw [eh]; exact .refl
      · rw [eh]; exact .new hT
    have s2 := s'.step xh
    have kp2 : Kp X.fr Z1 H1 H' := kp.trans xh.kp zs
    have hdrop : l.drop i = d :: l.drop (i + 1) := by
      rw [List.drop_eq_getElem_cons hi]
      congr 1
      rw [List.getElem?_eq_getElem hi] at hd
      exact Option.some.inj hd
    rw [hdrop] at o'
    unfold exFor at o'
    cases hb : bindT t d ρ' with
    | none => rw [hb] at o'; exact o'.elim
    | some ρ1 =>
      rw [hb] at o'
      have rd2 : Rep X.fr H' Zc d x := Rep.kp .refl zs _ _ rd
      refine gOf_use t d x ρ' ρ1 σ' FP' _ s2.env rd2 hb fun σ2 FP2 e2 f2 _ _ => ?_
      refine ⟨ρ1, Zc, FP2, H0, Z0, ⟨e2, s2.ext, fun j a ha => s2.new j a (f2 j a ha)⟩, ?_⟩
      have o2 := OutS.step (H1 := H') (Z1 := Zc) o' xh.kp (fun _ h => h)
      replace o2 : OutS X W D H0 Z0 H' Zc (fb ρ1 >>= fun fl => match fl with
        | .nx ρ2 => exFor fb t (l.drop (i + 1)) ρ2
        | .ct ρ2 => exFor fb t (l.drop (i + 1)) ρ2
        | .bk ρ2 => .ok (.nx ρ2)
        | .rt m d => .ok (.rt m d)) := o2
      cases hr : fb ρ1 with
      | st => rw [hr] at o2; exact o2.elim
      | er c p => rw [hr] at o2; exact o2
      | ok fl =>
        rw [hr] at o2
        cases fl with
        | nx ρ2 =>
          have o3 : OutS X W D H0 Z0 H' Zc (exFor fb t (l.drop (i + 1)) ρ2) := o2
          exact fun H'' Z'' σ'' FP'' s3 k3 z3 => ⟨ρ2, Z'', FP'', s3, kp2.trans k3 zs, fun a h => z3 a (zs a h), o3.step k3 z3⟩
        | ct ρ2 =>
          have o3 : OutS X W D H0 Z0 H' Zc (exFor fb t (l.drop (i + 1)) ρ2) := o2
          exact fun H'' Z'' σ'' FP'' s3 k3 z3 => ⟨ρ2, Z'', FP'', s3, kp2.trans k3 zs, fun a h => z3 a (zs a h), o3.step k3 z3⟩
        | bk ρ2 => exact o2
        | rt m d => exact o2
  · rintro σ' Hh ⟨ρ', Zc, FP', s', kp, zs, o'⟩
    rw [List.drop_of_length_le (Nat.le_refl _)] at o'
    exact o' Hh Zc σ' FP' s' .refl fun _ h => h

/-! ### an own list -/
theorem ownL_eq {i : Nat} {ds : List Pi.D} (h : Pi.ownL ρ i = .ok ds) : ρ[i]? = some (some (true, .lst ds)) ∧ ds.all Pi.D.atom = true := by
  unfold Pi.ownL at h
  split at h
  · rename_i ds' e
    split at h <;> cases h
    rename_i ha
    exact ⟨e, ha⟩
  · cases h
theorem ownD_eq {i : Nat} {x : Nat × List Pi.D × List Pi.D} (h : Pi.ownD ρ i = .ok x) : ρ[i]? = some (some (true, .dic x.1 x.2.1 x.2.2)) ∧ x.2.2.all Pi.D.atom = true := by
  unfold Pi.ownD at h
  split at h
  · rename_i k ks vs e
    split at h <;> cases h
    rename_i ha
    exact ⟨e, ha⟩
  · cases h
/-- the list in slot i -/
theorem EnvOk.list (e : EnvOk X.fr H Z ρ σ FP) {i : Nat} {ds : List Pi.D} (h : ρ[i]? = some (some (true, .lst ds))) (ha : ds.all Pi.D.atom = true) :
    ∃ l xs, σ[i]? = some (some (.ref l)) ∧ FP i = [l] ∧ H l = some (.lst xs) ∧ ¬ Z l ∧ RepL X.fr H Z ds xs := by
  obtain ⟨v, h1, h2⟩ := e.ow i _ h
  simp only [Own] at h2
  obtain ⟨l, xs, G, ev, eF, q, nz, _, r⟩ := h2
  obtain ⟨eg, rr⟩ := atoms_ownL ha r
  exact ⟨l, xs, by rw [← ev]; exact h1, by rw [eF, eg], q, nz, rr⟩
theorem EnvOk.dict (e : EnvOk X.fr H Z ρ σ FP) {i : Nat} {k : Nat} {ks vs : List Pi.D} (h : ρ[i]? = some (some (true, .dic k ks vs))) (ha : vs.all Pi.D.atom = true) :
    ∃ l xs, σ[i]? = some (some (.ref l)) ∧ FP i = [l] ∧ DcOwn X.fr H l k ks xs ∧ ¬ Z l ∧ RepL X.fr H Z vs xs := by
  obtain ⟨v, h1, h2⟩ := e.ow i _ h
  simp only [Own] at h2
  obtain ⟨l, xs, G, ev, eF, q, nz, _, r⟩ := h2
  obtain ⟨eg, rr⟩ := atoms_ownL ha r
  exact ⟨l, xs, by rw [← ev]; exact h1, by rw [eF, eg], q, nz, rr⟩
theorem SI.putL (s : SI X.fr H0 Z0 H Z ρ σ FP) {i : Nat} {ds es : List Pi.D} {l : Addr} {xs ys : List V} (h : ρ[i]? = some (some (true, .lst ds))) (hv : σ[i]? = some (some (.ref l))) (hF : FP i = [l]) (q : H l = some (.lst xs)) (ha : es.all Pi.D.atom = true) (r : RepL X.fr H Z es ys) :
    SI X.fr H0 Z0 (upd H l (.lst ys)) Z (putO ρ i (.lst es)) σ FP ∧ Kp X.fr Z H (upd H l (.lst ys)) := by
  have hi : i < ρ.length := (List.getElem?_eq_some_iff.mp h).1
  have hl : l ∈ FP i := by rw [hF]; exact List.mem_cons_self
  obtain ⟨nz, u, hu, hc⟩ := s.env.dom hl
  have kp : Kp X.fr Z H (upd H l (.lst ys)) := Kp.upd nz (Cont.noTup hu hc)
  obtain ⟨e2, kp⟩ := s.env.write (d := .lst es) (o := .lst ys) hi hl hv (by
    rw [hF]
    simp only [Own]
    exact ⟨l, ys, [], rfl, rfl, upd_same, nz, by simp, ownL_atoms ha (RepL.kp kp (fun _ h => h) _ _ r)⟩)
  have hn : H0 l = none := s.new i l hl
  refine ⟨⟨e2, ⟨fun b u hb => ?_, s.ext.z, fun a h => (s.ext.zn a h).imp id fun w => ⟨w.1, fun z => w.2 ?_⟩⟩, s.new⟩, kp⟩
  · rw [upd_ne (ne_of_none hb hn)]
    exact s.ext.same b u hb
  · by_cases ea : a = l
    · subst ea; rw [upd_same] at z; cases z
    · rw [upd_ne ea] at z; exact z
theorem SI.putD (s : SI X.fr H0 Z0 H Z ρ σ FP) {i k k2 : Nat} {ks vs ls ws : List Pi.D} {l : Addr} {o : HO} {ys : List V} (h : ρ[i]? = some (some (true, .dic k ks vs))) (hv : σ[i]? = some (some (.ref l))) (hF : FP i = [l]) (q : DcOwn X.fr (upd H l o) l k2 ls ys) (ha : ws.all Pi.D.atom = true) (r : RepL X.fr H Z ws ys) :
    SI X.fr H0 Z0 (upd H l o) Z (putO ρ i (.dic k2 ls ws)) σ FP ∧ Kp X.fr Z H (upd H l o) := by
  have hi : i < ρ.length := (List.getElem?_eq_some_iff.mp h).1
  have hl : l ∈ FP i := by rw [hF]; exact List.mem_cons_self
  obtain ⟨nz, u, hu, hc⟩ := s.env.dom hl
  have kp : Kp X.fr Z H (upd H l o) := Kp.upd nz (Cont.noTup hu hc)
  obtain ⟨e2, kp⟩ := s.env.write (d := .dic k2 ls ws) (o := o) hi hl hv (by
    rw [hF]
    simp only [Own]
    exact ⟨l, ys, [], rfl, rfl, q, nz, by simp, ownL_atoms ha (RepL.kp kp (fun _ h => h) _ _ r)⟩)
  have hn : H0 l = none := s.new i l hl
  refine ⟨⟨e2, ⟨fun b u hb => ?_, s.ext.z, fun a h => (s.ext.zn a h).imp id fun w => ⟨w.1, fun z => w.2 ?_⟩⟩, s.new⟩, kp⟩
  · rw [upd_ne (ne_of_none hb hn)]
    exact s.ext.same b u hb
  · by_cases ea : a = l
    · subst ea; rw [upd_same] at z; cases z
    · rw [upd_ne ea] at z; exact z
theorem ownL_ne {i : Nat} (c : Str) (p : Pi.D) : Pi.ownL ρ i ≠ .er c p := by
  unfold Pi.ownL
  split
  · split <;> exact fun h => nomatch h
  · exact fun h => nomatch h
theorem ownD_ne {i : Nat} (c : Str) (p : Pi.D) : Pi.ownD ρ i ≠ .er c p := by
  unfold Pi.ownD
  split
  · split <;> exact fun h => nomatch h
  · exact fun h => nomatch h
theorem appG_ok {ds es : List Pi.D} {x : Mo × Pi.D} (h : appG ds x = .ok es) : x.2.atom = true ∧ ds.length < sizeLine ∧ es = ds ++ [x.2] := by
  unfold appG at h
  split at h <;> cases h
  rename_i hh
  exact ⟨hh.1, hh.2, rfl⟩
theorem appG_ne {ds : List Pi.D} {x : Mo × Pi.D} (c : Str) (p : Pi.D) : appG ds x ≠ .er c p := by
  unfold appG
  split <;> exact fun h => nomatch h
/-- x.append(e) -/
theorem snd_app {i : Nat} (D : Ends) (σ : Pi.St) (H : Hp) (h : GS X W (fun ρ => Pi.ownL ρ i >>= fun ds => f ρ >>= fun x => appG ds x >>= fun ds => .ok (.nx (putO ρ i (.lst ds)))) D σ H) :
    tDrop (tBX (tyV X.K "list") rAppend (tVar i) (tCons (GE X W f) tNil)) D σ H := by
  obtain ⟨ρ, Z, FP, H0, Z0, s, o⟩ := h
  obtain ⟨ds, hd, o1⟩ := OutS.bind_ok (R := fun _ => True) (β := Unit) o ownL_ne
  obtain ⟨hi, ha⟩ := ownL_eq hd
  obtain ⟨l, xs, hv, hF, q, nz, r⟩ := s.env.list hi ha
  refine ⟨.ref l, hv, .inl ⟨rfl, xs, .inl (.inl q)⟩, ρ, Z, FP, s.env, OutS.ex s.ext o1 fun x H1 Z1 _ x1 o2 v r1 => ?_⟩
  obtain ⟨es, he, o3⟩ := OutS.bind_ok (R := fun _ => True) (β := Unit) o2 appG_ne
  obtain ⟨h1, h2, h3⟩ := appG_ok he
  have q1 : H1 l = some (.lst xs) := x1.same _ _ q
  have s1 := s.step x1
  refine ⟨l, xs, v, rfl, rfl, q1, by rw [r.length]; exact h2, ?_⟩
  subst h3
  have r2 : RepL X.fr H1 Z1 (ds ++ [x.2]) (xs ++ [v]) := (x1.repL r).append (by simp only [RepL]; exact ⟨v, [], rfl, r1.atom h1, rfl⟩)
  obtain ⟨s2, kp⟩ := s1.putL hi hv hF q1 (by rw [List.all_append, ha]; simpa using h1) r2
  exact o3 _ Z1 σ FP s2 (x1.kp.trans kp x1.z) x1.z
theorem extG_ok {ds es : List Pi.D} {x : Mo × Pi.D} (h : extG ds x = .ok es) : ∃ ls, x.2 = .lst ls ∧ ls.all Pi.D.atom = true ∧ ds.length + ls.length ≤ sizeLine ∧ es = ds ++ ls := by
  obtain ⟨m, d⟩ := x
  unfold extG at h
  split at h
  · rename_i ls e
    split at h <;> cases h
    rename_i hh
    exact ⟨ls, e, hh.1, hh.2, rfl⟩
  · cases h
theorem extG_ne {ds : List Pi.D} {x : Mo × Pi.D} (c : Str) (p : Pi.D) : extG ds x ≠ .er c p := by
  unfold extG
  split
  · split <;> exact fun h => nomatch h
  · exact fun h => nomatch h
theorem snd_ext {i : Nat} (D : Ends) (σ : Pi.St) (H : Hp) (h : GS X W (fun ρ => Pi.ownL ρ i >>= fun ds => f ρ >>= fun x => extG ds x >>= fun ds => .ok (.nx (putO ρ i (.lst ds)))) D σ H) :
    tDrop (tBX (tyV X.K "list") rExtend (tVar i) (tCons (GE X W f) tNil)) D σ H := by
  obtain ⟨ρ, Z, FP, H0, Z0, s, o⟩ := h
  obtain ⟨ds, hd, o1⟩ := OutS.bind_ok (R := fun _ => True) (β := Unit) o ownL_ne
  obtain ⟨hi, ha⟩ := ownL_eq hd
  obtain ⟨l, xs, hv, hF, q, nz, r⟩ := s.env.list hi ha
  refine ⟨.ref l, hv, .inl ⟨rfl, xs, .inl (.inl q)⟩, ρ, Z, FP, s.env, OutS.ex s.ext o1 fun x H1 Z1 _ x1 o2 v r1 => ?_⟩
  obtain ⟨es, he, o3⟩ := OutS.bind_ok (R := fun _ => True) (β := Unit) o2 extG_ne
  obtain ⟨m, d⟩ := x
  obtain ⟨ls, h1, h2, h3, h4⟩ := extG_ok he
  simp only at h1
  subst h1 h4
  have q1 : H1 l = some (.lst xs) := x1.same _ _ q
  have s1 := s.step x1
  obtain ⟨b, zs, ev, qb, rb⟩ := r1.items (by unfold elOk; rw [h2]; simp)
  refine ⟨l, b, xs, zs, rfl, by rw [ev], q1, qb, by rw [r.length, rb.length]; exact h3, ?_⟩
  obtain ⟨s2, kp⟩ := s1.putL hi hv hF q1 (by rw [List.all_append, ha, h2]; rfl) ((x1.repL r).append rb)
  exact o3 _ Z1 σ FP s2 (x1.kp.trans kp x1.z) x1.z
end
end Pi

set_option Elab.async false
set_option linter.all false
set_option maxRecDepth 100000
set_option maxHeartbeats 4000000
/-! Pi21: own dicts that are written; op=. -/
namespace Pi
open PySem PySem.Spec PyProof.Rows L2
/-- o[i] = v -/
def rSetAll (K : Fr) : TSet := fun o i v H Q => rSetL o i v H Q ∨ rSetD o i v H Q ∨ ∃ a kvs k, o = .ref a ∧ H a = some (ND K a kvs) ∧ i = nkV k ∧ kvs.length < sizeLine ∧ Q (upd H a (ND K a (putK kvs k v)))
section
variable {X : Cx} {W : WX} {f fe fk : Rho → Res (Mo × Pi.D)} {ρ : Rho} {σ : Pi.St} {FP : Nat → List Addr} {H0 H : Hp} {Z0 Z : Addr → Prop}
theorem set_all (hu : X.A.units + 1 < cLine) : PSet X (rSetAll X.fr) := by
  intro pins s σ H o i v ov iv u Q I ro ri rv h
  rcases h with h | h | ⟨a, kvs, k, e1, g, e2, hl, q⟩
  · exact set_list pins s σ H o i v ov iv u Q I ro ri rv h
  · exact set_dict hu pins s σ H o i v ov iv u Q I ro ri rv h
  · subst e1 e2
    cases (show ov = Value.ref a from ro)
    exact nd_set I g hl ri rv fun s' I' => ⟨_, I', q⟩
theorem dsetG_ok {k : Nat} {ks vs : List Pi.D} {key x : Mo × Pi.D} {d : Pi.D} (h : dsetG k ks vs key x = .ok d) : kOk k key.2 = true ∧ x.2.atom = true ∧ ks.length < sizeLine ∧ d = .dic k (dput ks vs key.2 x.2).1 (dput ks vs key.2 x.2).2 := by
  unfold dsetG at h
  split at h <;> cases h
  rename_i hh
  exact ⟨hh.1, hh.2.1, hh.2.2, rfl⟩
theorem dsetG_ne {k : Nat} {ks vs : List Pi.D} {key x : Mo × Pi.D} (c : Str) (p : Pi.D) : dsetG k ks vs key x ≠ .er c p := by
  unfold dsetG
  split <;> exact fun h => nomatch h
theorem lsetG_ok {ds es : List Pi.D} {key x : Mo × Pi.D} (h : lsetG ds key x = .ok es) : ∃ i j, key.2 = .int i ∧ x.2.atom = true ∧ L2.ixN ds.length i = some j ∧ es = ds.set j x.2 := by
  unfold lsetG at h
  split at h
  · rename_i i e
    split at h
    · rename_i ha
      split at h <;> cases h
      rename_i j hj
      exact ⟨i, j, e, ha, hj, rfl⟩
    · cases h
  · cases h
theorem lsetG_ne {ds : List Pi.D} {key x : Mo × Pi.D} (c : Str) (p : Pi.D) : lsetG ds key x ≠ .er c p := by
  unfold lsetG
  split
  · split
    · split <;> exact fun h => nomatch h
    · exact fun h => nomatch h
  · exact fun h => nomatch h
/-- an entry is laid at an own dict's place -/
theorem SI.dput (s : SI X.fr H0 Z0 H Z ρ σ FP) {i k : Nat} {ks vs : List Pi.D} {l : Addr} {xs : List V} (h : ρ[i]? = some (some (true, .dic k ks vs))) (hv : σ[i]? = some (some (.ref l))) (hF : FP i = [l]) (q : DcOwn X.fr H l k ks xs) (ha : vs.all Pi.D.atom = true) (r : RepL X.fr H Z vs xs)
    {key x : Pi.D} {kv v : V} (hk : kOk k key = true) (hx : x.atom = true) (hl : ks.length < sizeLine) (rk : Rep X.fr H All key kv) (rx : Rep X.fr H Z x v) :
    ∃ H', ((k = 0 ∧ ∃ kvs kk, H l = some (.dK kvs) ∧ kv = kV kk ∧ key = keyD kk ∧ ks = kvs.map (fun p => keyD p.1) ∧ kvs.length < sizeLine ∧ H' = upd H l (.dK (putK kvs kk v))) ∨
      (k = 2 ∧ ∃ kvs kk, H l = some (ND X.fr l kvs) ∧ kv = nkV kk ∧ key = nkD kk ∧ ks = kvs.map (fun p => nkD p.1) ∧ kvs.length < sizeLine ∧ H' = upd H l (ND X.fr l (putK kvs kk v)))) ∧ SI X.fr H0 Z0 H' Z (putO ρ i (.dic k (Pi.dput ks vs key x).1 (Pi.dput ks vs key x).2)) σ FP ∧ Kp X.fr Z H H' := by
  have hat := dput_atoms (ks := ks) (k := key) ha hx
  rcases k with _ | _ | _ | k
  · obtain ⟨kvs, q1, e1, e2⟩ := q
    subst e1 e2
    unfold kOk at hk
    simp only [if_true] at hk
    obtain ⟨k, hk⟩ := Option.isSome_iff_exists.mp hk
    obtain ⟨e3, e4⟩ := key_rep hk rk
    subst e3 e4
    obtain ⟨p1, p2⟩ := dput_put keyD beqK_key kmem_key k rx kvs vs r
    have hl' : kvs.length < sizeLine := by simpa using hl
    obtain ⟨s2, kp⟩ := s.putD (o := .dK (putK kvs k v)) (k2 := 0) (ls := (Pi.dput (kvs.map fun p => keyD p.1) vs (keyD k) x).1) (ws := (Pi.dput (kvs.map fun p => keyD p.1) vs (keyD k) x).2) h hv hF ⟨_, upd_same, p1, rfl⟩ hat p2
    exact ⟨_, .inl ⟨rfl, kvs, k, q1, rfl, rfl, rfl, hl', rfl⟩, s2, kp⟩
  · exact q.elim
  · obtain ⟨kvs, q1, e1, e2⟩ := q
    subst e1 e2
    have hk : key.nkey.isSome = true := hk
    obtain ⟨k, hk⟩ := Option.isSome_iff_exists.mp hk
    obtain ⟨e3, e4⟩ := nkey_rep hk rk
    subst e3 e4
    obtain ⟨p1, p2⟩ := dput_put nkD beqK_nkey kmem_nkey k rx kvs vs r
    have hl' : kvs.length < sizeLine := by simpa using hl
    obtain ⟨s2, kp⟩ := s.putD (o := ND X.fr l (putK kvs k v)) (k2 := 2) (ls := (Pi.dput (kvs.map fun p => nkD p.1) vs (nkD k) x).1) (ws := (Pi.dput (kvs.map fun p => nkD p.1) vs (nkD k) x).2) h hv hF ⟨_, upd_same, p1, rfl⟩ hat p2
    exact ⟨_, .inr ⟨rfl, kvs, k, q1, rfl, rfl, rfl, hl', rfl⟩, s2, kp⟩
  · exact q.elim
theorem out_st {D : Ends} {r : Res Fl} (h : OutS X W D H0 Z0 H Z (Res.st)) : False := h
theorem snd_setI {i : Nat} (D : Ends) (σ : Pi.St) (H : Hp) (h : GS X W (fun ρ => f ρ >>= fun x => match ρ[i]? with
    | some (some (true, .lst _)) => Pi.ownL ρ i >>= fun ds => fk ρ >>= fun k => lsetG ds k x >>= fun ds => .ok (.nx (putO ρ i (.lst ds)))
    | some (some (true, .dic _ _ _)) => Pi.ownD ρ i >>= fun d => fk ρ >>= fun k => dsetG d.1 d.2.1 d.2.2 k x >>= fun d => .ok (.nx (putO ρ i d))
    | _ => .st) D σ H) : tAsg (GE X W f) (gSub (tVar i) (GE X W fk) (rSetAll X.fr)) D σ H := by
  obtain ⟨ρ, Z, FP, H0, Z0, s, o⟩ := h
  refine ⟨ρ, Z, FP, s.env, OutS.ex s.ext o fun x H1 Z1 _ x1 o1 v r1 => ?_⟩
  have s1 := s.step x1
  replace o1 := o1.step x1.kp x1.z
  generalize hi : ρ[i]? = sl at o1
  match sl, hi, o1 with
  | none, _, o1 => exact o1.elim
  | some none, _, o1 => exact o1.elim
  | some (some (false, d)), _, o1 => exact o1.elim
  | some (some (true, .lst ds0)), hi, o1 =>
    obtain ⟨ds, hd, o2⟩ := OutS.bind_ok (R := fun _ => True) (β := Unit) o1 ownL_ne
    obtain ⟨hi, ha⟩ := ownL_eq hd
    obtain ⟨l, xs, hv, hF, q, nz, r⟩ := s1.env.list hi ha
    refine ⟨.ref l, hv, ρ, Z1, FP, s1.env, OutS.ex s1.ext o2 fun k H2 Z2 _ x2 o3 kv r2 => ?_⟩
    have s2 := s1.step x2
    obtain ⟨es, he, o4⟩ := OutS.bind_ok (R := fun _ => True) (β := Unit) o3 lsetG_ne
    obtain ⟨m, kd⟩ := k
    obtain ⟨n, j, h1, h2, h3, h4⟩ := lsetG_ok he
    simp only at h1
    subst h1 h4
    have q2 : H2 l = some (.lst xs) := x2.same _ _ q
    have rx : Rep X.fr H2 Z2 x.2 v := x2.rep (r1.atom h2)
    obtain ⟨s3, kp⟩ := s2.putL (es := ds.set j x.2) (ys := xs.set j v) hi hv hF q2 (by
      rw [List.all_eq_true] at ha ⊢
      intro y hy
      rcases List.mem_or_eq_of_mem_set hy with hy | hy
      · exact ha y hy
      · rw [hy]; exact h2) ((x2.repL r).set j rx)
    exact .inl ⟨l, xs, n, j, rfl, res_int r2, q2, by rw [r.length]; exact h3, o4 _ Z2 σ FP s3 (x2.kp.trans kp x2.z) x2.z⟩
  | some (some (true, .dic k0 ks0 vs0)), hi, o1 =>
    obtain ⟨dd, hd, o2⟩ := OutS.bind_ok (R := fun _ => True) (β := Unit) o1 ownD_ne
    obtain ⟨hi, ha⟩ := ownD_eq hd
    obtain ⟨l, xs, hv, hF, q, nz, r⟩ := s1.env.dict hi ha
    refine ⟨.ref l, hv, ρ, Z1, FP, s1.env, OutS.ex s1.ext o2 fun k H2 Z2 _ x2 o3 kv r2 => ?_⟩
    have s2 := s1.step x2
    obtain ⟨d2, he, o4⟩ := OutS.bind_ok (R := fun _ => True) (β := Unit) o3 dsetG_ne
    obtain ⟨h1, h2, h3, h4⟩ := dsetG_ok he
    subst h4
    have hlF : l ∈ FP i := by rw [hF]; exact List.mem_cons_self
    have q2 : DcOwn X.fr H2 l dd.1 dd.2.1 xs := by
      obtain ⟨u, hu, _⟩ := q.some
      exact q.same (by rw [hu, x2.same _ _ hu])
    obtain ⟨H', t1, s3, kp⟩ := s2.dput hi hv hF q2 ha (x2.repL r) h1 h2 h3 r2.read (x2.rep (r1.atom h2))
    have fin := o4 _ Z2 σ FP s3 (x2.kp.trans kp x2.z) x2.z
    rcases t1 with ⟨_, kvs, kk, g, e1, _, _, hl, e2⟩ | ⟨_, kvs, kk, g, e1, _, _, hl, e2⟩
    · subst e1 e2
      exact .inr (.inl ⟨l, _, rfl, .inl ⟨kvs, kk, g, rfl, hl, rfl⟩, fin⟩)
    · subst e1 e2
      exact .inr (.inr ⟨l, kvs, kk, rfl, g, rfl, hl, fin⟩)
  | some (some (true, .non)), _, o1 => exact o1.elim
  | some (some (true, .bl _)), _, o1 => exact o1.elim
  | some (some (true, .int _)), _, o1 => exact o1.elim
  | some (some (true, .str _)), _, o1 => exact o1.elim
  | some (some (true, .tup _)), _, o1 => exact o1.elim
  | some (some (true, .scr _)), _, o1 => exact o1.elim

/-! ### x.setdefault(k, e), as a statement -/
def rSetd (K : Fr) : V → List V → Hp → VK → Prop := fun x xs H Q => (∃ a kvs k v, x = .ref a ∧ xs = [kV k, v] ∧ H a = some (.dK kvs) ∧ kvs.length < sizeLine ∧ ((valV kvs k).isSome = true → ∀ w, Q w H) ∧ (valV kvs k = none → ∀ w, Q w (upd H a (.dK (putK kvs k v))))) ∨
  ∃ a kvs k v, x = .ref a ∧ xs = [nkV k, v] ∧ H a = some (ND K a kvs) ∧ kvs.length < sizeLine ∧ ((valV kvs k).isSome = true → ∀ w, Q w H) ∧ (valV kvs k = none → ∀ w, Q w (upd H a (ND K a (putK kvs k v))))
theorem mt_setd : MtR X "dict.setdefault" (rSetd X.fr) := by
  intro pins s σ H x xs v us Q I rx rs h
  rcases h with ⟨a, kvs, k, y, e1, e2, g, hl, q1, q2⟩ | ⟨a, kvs, k, y, e1, e2, g, hl, q1, q2⟩
  · subst e1 e2
    obtain ⟨u, u2, eu, rk, ry⟩ := vals2 rs
    subst eu
    obtain rfl : v = Value.ref a := rx
    exact d_setd I g rk ry hl (fun w hw w' s' I' rw' => ⟨w, H, I', rw', q1 (by rw [hw]; rfl) w⟩) fun hn w' s' I' rw' => ⟨y, _, I', rw', q2 hn y⟩
  · subst e1 e2
    obtain ⟨u, u2, eu, rk, ry⟩ := vals2 rs
    subst eu
    obtain rfl : v = Value.ref a := rx
    exact nd_setd I g hl rk ry (fun w hw w' s' I' rw' => ⟨w, H, I', rw', q1 (by rw [hw]; rfl) w⟩) fun hn w' s' I' rw' => ⟨y, _, I', rw', q2 hn y⟩
end
end Pi

set_option Elab.async false
set_option linter.all false
set_option maxRecDepth 100000
set_option maxHeartbeats 4000000
/-! Pi22: setdefault, update, op=, several names at once. -/
namespace Pi
open PySem PySem.Spec PyProof.Rows L2
section
variable {X : Cx} {W : WX} {f fe fk : Rho → Res (Mo × Pi.D)} {ρ : Rho} {σ : Pi.St} {FP : Nat → List Addr} {H0 H H1 : Hp} {Z0 Z Z1 : Addr → Prop}
theorem dsetd_ne {k : Nat} {ks vs : List Pi.D} {key x : Mo × Pi.D} (c : Str) (p : Pi.D) : dsetd k ks vs key x ≠ .er c p := by
  unfold dsetd
  split
  · split <;> exact fun h => nomatch h
  · exact dsetG_ne c p
theorem own_ty {k : Nat} {ks : List Pi.D} {l : Addr} {xs : List V} (q : DcOwn X.fr H l k ks xs) : tyDic X.fr (.ref l) H := by
  obtain ⟨u, hu, c⟩ := q.some
  rcases c with ⟨kvs, c⟩ | ⟨kvs, c⟩
  · exact ⟨l, rfl, .inl (.inl ⟨kvs, .inl (by rw [hu, c])⟩)⟩
  · exact ⟨l, rfl, .inr ⟨kvs, by rw [hu, c]⟩⟩
theorem DcOwn.step {k : Nat} {ks : List Pi.D} {l : Addr} {xs : List V} (q : DcOwn X.fr H l k ks xs) (x : Ext H Z H1 Z1) : DcOwn X.fr H1 l k ks xs := by
  obtain ⟨u, hu, _⟩ := q.some
  exact q.same (by rw [hu, x.same _ _ hu])
theorem snd_setd {i : Nat} (D : Ends) (σ : Pi.St) (H : Hp) (h : GS X W (fun ρ => Pi.ownD ρ i >>= fun d => fk ρ >>= fun k => f ρ >>= fun x => dsetd d.1 d.2.1 d.2.2 k x >>= fun d => .ok (.nx (putO ρ i d))) D σ H) :
    tDrop (tBX (tyDic X.fr) (rSetd X.fr) (tVar i) (tCons (GE X W fk) (tCons (GE X W f) tNil))) D σ H := by
  obtain ⟨ρ, Z, FP, H0, Z0, s, o⟩ := h
  obtain ⟨dd, hd, o1⟩ := OutS.bind_ok (R := fun _ => True) (β := Unit) o ownD_ne
  obtain ⟨k, ks, vs⟩ := dd
  obtain ⟨hi, ha⟩ := ownD_eq hd
  simp only at hi ha o1
  obtain ⟨l, xs, hv, hF, q, nz, r⟩ := s.env.dict hi ha
  refine ⟨.ref l, hv, own_ty q, ρ, Z, FP, s.env, OutS.ex s.ext o1 fun key H1 Z1 _ x1 o2 kv r1 => ?_⟩
  have s1 := s.step x1
  refine ⟨ρ, Z1, FP, s1.env, OutS.ex s1.ext (o2.step x1.kp x1.z) fun x H2 Z2 _ x2 o3 v r2 => ?_⟩
  have s2 := s1.step x2
  obtain ⟨d2, he, o4⟩ := OutS.bind_ok (R := fun _ => True) (β := Unit) o3 dsetd_ne
  have q2 := (q.step x1).step x2
  have rr := x2.repL (x1.repL r)
  have rk : Rep X.fr H2 All key.2 kv := (r1.ext x2).read
  replace o4 := o4.step x2.kp x2.z
  unfold dsetd at he
  split at he
  · rename_i hm
    split at he <;> cases he
    rename_i hk
    obtain ⟨hk, hl⟩ := hk
    have same : putO ρ i (.dic k ks vs) = ρ := by
      unfold putO
      apply List.ext_getElem?
      intro j
      by_cases hj : i = j
      · subst hj
        rw [List.getElem?_set_self (List.getElem?_eq_some_iff.mp hi).1, hi]
      · rw [List.getElem?_set_ne hj]
    rw [same] at o4
    have fin := o4 H2 Z2 σ FP s2 .refl fun _ h => h
    rcases k with _ | _ | _ | k
    · obtain ⟨kvs, q3, e1, e2⟩ := q2
      subst e1 e2
      have hk : key.2.key.isSome = true := by simpa [kOk] using hk
      obtain ⟨k, hk⟩ := Option.isSome_iff_exists.mp hk
      obtain ⟨e3, e4⟩ := key_rep hk rk
      subst e3
      rw [e4, kmem_key] at hm
      exact .inl ⟨l, kvs, k, v, rfl, rfl, q3, by simpa using hl, fun _ _ => fin, fun z => by rw [z] at hm; cases hm⟩
    · exact q2.elim
    · obtain ⟨kvs, q3, e1, e2⟩ := q2
      subst e1 e2
      have hk : key.2.nkey.isSome = true := hk
      obtain ⟨k, hk⟩ := Option.isSome_iff_exists.mp hk
      obtain ⟨e3, e4⟩ := nkey_rep hk rk
      subst e3
      rw [e4, kmem_nkey] at hm
      exact .inr ⟨l, kvs, k, v, rfl, rfl, q3, by simpa using hl, fun _ _ => fin, fun z => by rw [z] at hm; cases hm⟩
    · exact q2.elim
  · rename_i hm
    obtain ⟨hk, hx, hl, e5⟩ := dsetG_ok he
    subst e5
    obtain ⟨H', t1, s3, kp⟩ := s2.dput hi hv hF q2 ha rr hk hx hl rk (r2.atom hx)
    have fin := o4 H' Z2 σ FP s3 kp fun _ h => h
    rcases t1 with ⟨_, kvs, kk, g, e1, e3, e4, hl, e2⟩ | ⟨_, kvs, kk, g, e1, e3, e4, hl, e2⟩
    · subst e1 e2
      rw [e3, e4, kmem_key] at hm
      exact .inl ⟨l, kvs, kk, v, rfl, rfl, g, hl, fun z => absurd z hm, fun _ _ => fin⟩
    · subst e1 e2
      rw [e3, e4, kmem_nkey] at hm
      exact .inr ⟨l, kvs, kk, v, rfl, rfl, g, hl, fun z => absurd z hm, fun _ _ => fin⟩

/-! ### update -/
def rUpd : V → List V → Hp → VK → Prop := fun x xs H Q => ∃ a b kvs more, x = .ref a ∧ xs = [.ref b] ∧ a ≠ b ∧ H a = some (.dK kvs) ∧ Rd H b (.dK more) ∧ kvs.length + more.length ≤ sizeLine ∧ Q .non (upd H a (.dK (mergeK kvs more)))
theorem mt_upd : MtR X "dict.update" rUpd := by
  intro pins s σ H x xs v us Q I rx rs h
  obtain ⟨a, b, kvs, more, e1, e2, ne, g, g2, hl, q⟩ := h
  subst e1 e2
  obtain ⟨u, eu, ry⟩ := vals1 rs
  subst eu
  obtain rfl : v = Value.ref a := rx
  obtain rfl : u = Value.ref b := ry
  obtain ⟨z, hd, vs, rel, dd⟩ := dk_of I.hok g
  obtain ⟨z2, hd2, vs2, rel2, dd2⟩ := dk_rd I.hok g2
  refine call_meetsIn PySem.F.slot_dict_update dd.typeIs PySem.F.entry_dict_update (PySem.F.args_dict_update_2 _ _) (meets_dict_update (mixKind X.prog X.w) a b ne hd2) ⟨vs, vs2, dd, dd2, by rw [← rel.length, ← rel2.length]; exact hl, fun h' dd' _ hs => ?_⟩
  have he : ∃ q, h'.get? a = some q := let ⟨q, _, _, hq, _⟩ := dd'; ⟨q, hq⟩
  exact ⟨.non, _, d_write (t' := s.toks) I (by rw [g]; exact True.intro) hs he (dk_new (Nat.le_trans (length_mergeK more kvs) hl) hd (rel2.merge rel) dd'), rfl, q⟩
theorem updG_ok {k : Nat} {ks vs : List Pi.D} {x : Mo × Pi.D} {d : Pi.D} (h : updG k ks vs x = .ok d) : ∃ ls ws, x.2 = .dic 0 ls ws ∧ k = 0 ∧ x.1 ≠ .bo ∧ ws.all Pi.D.atom = true ∧ ks.length + ls.length ≤ sizeLine ∧ d = .dic 0 (dputs ls ws (ks, vs)).1 (dputs ls ws (ks, vs)).2 := by
  obtain ⟨m, dx⟩ := x
  unfold updG at h
  split at h
  · rename_i ls ws e
    split at h <;> cases h
    rename_i hh
    exact ⟨ls, ws, e, hh.1, hh.2.1, hh.2.2.1, hh.2.2.2.1, rfl⟩
  · cases h
theorem updG_ne {k : Nat} {ks vs : List Pi.D} {x : Mo × Pi.D} (c : Str) (p : Pi.D) : updG k ks vs x ≠ .er c p := by
  unfold updG
  split
  · split <;> exact fun h => nomatch h
  · exact fun h => nomatch h
theorem snd_upd {i : Nat} (D : Ends) (σ : Pi.St) (H : Hp) (h : GS X W (fun ρ => Pi.ownD ρ i >>= fun d => f ρ >>= fun x => updG d.1 d.2.1 d.2.2 x >>= fun d => .ok (.nx (putO ρ i d))) D σ H) :
    tDrop (tBX (tyDic X.fr) rUpd (tVar i) (tCons (GE X W f) tNil)) D σ H := by
  obtain ⟨ρ, Z, FP, H0, Z0, s, o⟩ := h
  obtain ⟨dd, hd, o1⟩ := OutS.bind_ok (R := fun _ => True) (β := Unit) o ownD_ne
  obtain ⟨k, ks, vs⟩ := dd
  obtain ⟨hi, ha⟩ := ownD_eq hd
  simp only at hi ha o1
  obtain ⟨l, xs, hv, hF, q, nz, r⟩ := s.env.dict hi ha
  refine ⟨.ref l, hv, own_ty q, ρ, Z, FP, s.env, OutS.ex s.ext o1 fun x H1 Z1 _ x1 o2 v r1 => ?_⟩
  have s1 := s.step x1
  obtain ⟨d2, he, o4⟩ := OutS.bind_ok (R := fun _ => True) (β := Unit) o2 updG_ne
  obtain ⟨m, dx⟩ := x
  obtain ⟨ls, ws, e1, e2, e3, e4, e5, e6⟩ := updG_ok he
  simp only at e1 e3
  subst e1 e2 e6
  have q2 := q.step x1
  obtain ⟨kvs, q3, e7, e8⟩ := q2
  subst e7 e8
  have hlF : l ∈ FP i := by rw [hF]; exact List.mem_cons_self
  -- the other dict
  have key : ∃ b more, v = .ref b ∧ l ≠ b ∧ Rd H1 b (.dK more) ∧ ls = more.map (fun p => keyD p.1) ∧ RepL X.fr H1 Z1 ws (more.map (·.2)) := by
    cases m with
    | fz =>
      have r1 : Rep X.fr H1 Z1 (.dic 0 ls ws) v := r1
      simp only [Rep, DcAt] at r1
      obtain ⟨b, ys, ev, ⟨more, g1, g2, g3⟩, zb, rr⟩ := r1
      subst g3
      exact ⟨b, more, ev, fun e => (s1.env.dom hlF).1 (e ▸ zb), g1, g2, rr⟩
    | ow =>
      obtain ⟨G, o5, o6⟩ := r1
      simp only [Own, DcOwn] at o5
      obtain ⟨b, ys, G', ev, eG, ⟨more, g1, g2, g3⟩, nzb, _, rr⟩ := o5
      subst g3
      refine ⟨b, more, ev, fun e => ?_, .inl g1, g2, (atoms_ownL e4 rr).2⟩
      obtain ⟨_, u, hu, _⟩ := s.env.dom hlF
      rw [e, o6 b (by rw [eG]; exact List.mem_cons_self)] at hu
      cases hu
    | bo => exact absurd rfl e3
  obtain ⟨b, more, ev, ne, g1, g2, rr⟩ := key
  subst g2
  obtain ⟨p1, p2, p3⟩ := dputs_merge more ws kvs vs rr (x1.repL r) e4 ha
  obtain ⟨s3, kp⟩ := s1.putD (o := .dK (mergeK kvs more)) (k2 := 0) (ls := (dputs (more.map fun p => keyD p.1) ws (kvs.map fun p => keyD p.1, vs)).1) (ws := (dputs (more.map fun p => keyD p.1) ws (kvs.map fun p => keyD p.1, vs)).2) hi hv hF ⟨_, upd_same, p1, rfl⟩ p3 p2
  exact ⟨l, b, kvs, more, rfl, by rw [ev], ne, q3, g1, by simpa using e5, o4 _ Z1 σ FP s3 (x1.kp.trans kp x1.z) x1.z⟩

/-! ### op= of ints -/
def ipG (o : Op) : TIp := fun x y H Q => ∃ i j z, x = .int i ∧ y = .int j ∧ augG o (.int i) (.int j) = some (.int z) ∧ Q (.int z) H
theorem pip_of {o : Op} {p : Operator} (h : o.bin = some p) (ho : o = .add ∨ o = .sub ∨ o = .mul) : PIp X p (ipG o) := by
  intro pins s σ H x y v u Q I rx ry hq
  obtain ⟨i, j, z, e1, e2, e3, q⟩ := hq
  subst e1 e2
  rcases ho with ho | ho | ho
  · subst ho
    cases h
    cases e3
    exact iop_add pins s σ H _ _ v u Q I rx ry ⟨i, j, rfl, rfl, q⟩
  · subst ho
    cases h
    cases e3
    exact iop_sub pins s σ H _ _ v u Q I rx ry ⟨i, j, rfl, rfl, q⟩
  · subst ho
    cases h
    have e3 : (if (-(2 ^ 64) < i ∧ i < 2 ^ 64) ∨ (-(2 ^ 64) < j ∧ j < 2 ^ 64) then some (D.int (i * j)) else none) = some (.int z) := e3
    split at e3 <;> cases e3
    rename_i hc
    exact iop_mul pins s σ H _ _ v u Q I rx ry ⟨i, j, rfl, rfl, hc, q⟩
theorem augG_int {o : Op} {i : Int} {y z : Pi.D} (h : augG o (.int i) y = some z) : ∃ j k, y = .int j ∧ z = .int k := by
  unfold augG at h
  split at h
  · cases h; exact ⟨_, _, rfl, rfl⟩
  · cases h; exact ⟨_, _, rfl, rfl⟩
  · split at h <;> cases h
    exact ⟨_, _, rfl, rfl⟩
  · cases h
theorem snd_aug {i : Nat} {o : Op} (D : Ends) (σ : Pi.St) (H : Hp) (h : GS X W (fun ρ => match ρ[i]? with
    | some (some (false, .int j)) => f ρ >>= fun y => (match augG o (.int j) y.2 with | some z => .ok (.nx (ρ.set i (some (false, z)))) | none => .st)
    | _ => .st) D σ H) : tAug i (GE X W f) (ipG o) D σ H := by
  obtain ⟨ρ, Z, FP, H0, Z0, s, oo⟩ := h
  replace oo : OutS X W D H0 Z0 H Z (match ρ[i]? with
    | some (some (false, .int j)) => f ρ >>= fun y => (match augG o (.int j) y.2 with | some z => .ok (.nx (ρ.set i (some (false, z)))) | none => .st)
    | _ => .st) := oo
  generalize hi : ρ[i]? = sl at oo
  match sl, hi, oo with
  | some (some (false, .int j)), hi, oo =>
    obtain ⟨w, h1, h2⟩ := s.env.fz i _ hi
    simp only [Rep] at h2
    subst h2
    refine ⟨.int j, h1, ρ, Z, FP, s.env, OutS.ex s.ext oo fun y H1 Z1 _ x1 o1 v r1 => ?_⟩
    cases hz : augG o (.int j) y.2 with
    | none => simp only [hz] at o1; exact o1.elim
    | some z =>
      simp only [hz] at o1
      obtain ⟨m, d⟩ := y
      obtain ⟨j2, k2, e1, e2⟩ := augG_int hz
      simp only at e1
      subst e1 e2
      have s1 := s.step x1
      refine ⟨j, j2, k2, rfl, res_int r1, hz, ?_⟩
      have hl : i < ρ.length := (List.getElem?_eq_some_iff.mp hi).1
      refine o1 H1 Z1 _ _ ⟨s1.env.set (d := .int k2) (v := .int k2) hl (by simp only [Rep]), s1.ext, fun jj a ha => ?_⟩ x1.kp x1.z
      by_cases hji : jj = i
      · rw [if_pos hji] at ha; simp at ha
      · rw [if_neg hji] at ha; exact s1.new jj a ha
  | none, _, oo => exact oo.elim
  | some none, _, oo => exact oo.elim
  | some (some (true, _)), _, oo => exact oo.elim
  | some (some (false, .non)), _, oo => exact oo.elim
  | some (some (false, .bl _)), _, oo => exact oo.elim
  | some (some (false, .str _)), _, oo => exact oo.elim
  | some (some (false, .tup _)), _, oo => exact oo.elim
  | some (some (false, .lst _)), _, oo => exact oo.elim
  | some (some (false, .dic _ _ _)), _, oo => exact oo.elim
  | some (some (false, .scr _)), _, oo => exact oo.elim

/-! ### o[i], p[j] = a pair; an expression by itself -/
theorem two_ok {x : Mo × Pi.D} {a b : Pi.D} (h : two x = .ok (a, b)) : x = (.fz, .tup [a, b]) := by
  unfold two at h
  split at h <;> cases h
  rfl
theorem two_ne {x : Mo × Pi.D} (c : Str) (p : Pi.D) : two x ≠ .er c p := by
  unfold two
  split <;> exact fun h => nomatch h
theorem putD_use {D : Ends} {i : Nat} {x : Pi.D} {v : V} {k : Rho → Res Fl} {Q : Pi.St → Hp → Prop} (s : SI X.fr H0 Z0 H Z ρ σ FP) (o : OutS X W D H0 Z0 H Z (putD fk i x ρ >>= k)) (rx : Rep X.fr H Z x v)
    (c : ∀ ρ' H' Z', SI X.fr H0 Z0 H' Z' ρ' σ FP → Kp X.fr Z H H' → (∀ a, Z a → Z' a) → OutS X W D H0 Z0 H' Z' (k ρ') → Q σ H') : gSub (tVar i) (GE X W fk) (rSetAll X.fr) v σ H Q := by
  unfold putD at o
  rw [res_assoc] at o
  obtain ⟨dd, hd, o2⟩ := OutS.bind_ok (R := fun _ => True) (β := Unit) o ownD_ne
  obtain ⟨hi, ha⟩ := ownD_eq hd
  obtain ⟨l, xs, hv, hF, q, nz, r⟩ := s.env.dict hi ha
  rw [res_assoc] at o2
  refine ⟨.ref l, hv, ρ, Z, FP, s.env, OutS.ex s.ext o2 fun key H2 Z2 _ x2 o3 kv r2 => ?_⟩
  have s2 := s.step x2
  rw [res_assoc] at o3
  obtain ⟨d2, he, o4⟩ := OutS.bind_ok (R := fun _ => True) (β := Unit) o3 dsetG_ne
  replace o4 : OutS X W D H0 Z0 H Z (k (putO ρ i d2)) := o4
  obtain ⟨h1, h2, h3, h4⟩ := dsetG_ok he
  subst h4
  have q2 : DcOwn X.fr H2 l dd.1 dd.2.1 xs := by
    obtain ⟨u, hu, _⟩ := q.some
    exact q.same (by rw [hu, x2.same _ _ hu])
  obtain ⟨H', t1, s3, kp⟩ := s2.dput hi hv hF q2 ha (x2.repL r) h1 h2 h3 r2.read (x2.rep rx)
  have fin := c _ H' Z2 s3 (x2.kp.trans kp x2.z) x2.z (o4.step (x2.kp.trans kp x2.z) x2.z)
  rcases t1 with ⟨_, kvs, kk, g, e1, _, _, hl, e2⟩ | ⟨_, kvs, kk, g, e1, _, _, hl, e2⟩
  · subst e1 e2
    exact .inr (.inl ⟨l, _, rfl, .inl ⟨kvs, kk, g, rfl, hl, rfl⟩, fin⟩)
  · subst e1 e2
    exact .inr (.inr ⟨l, kvs, kk, rfl, g, rfl, hl, fin⟩)
theorem snd_put2 {i j : Nat} {fk2 : Rho → Res (Mo × Pi.D)} (D : Ends) (σ : Pi.St) (H : Hp) (h : GS X W (fun ρ => f ρ >>= fun x => two x >>= fun p => putD fk i p.1 ρ >>= fun ρ => putD fk2 j p.2 ρ >>= fun ρ => .ok (.nx ρ)) D σ H) :
    tAsg (GE X W f) (gTup X.K 2 (gCons (gSub (tVar i) (GE X W fk) (rSetAll X.fr)) (gCons (gSub (tVar j) (GE X W fk2) (rSetAll X.fr)) gNil))) D σ H := by
  obtain ⟨ρ, Z, FP, H0, Z0, s, o⟩ := h
  refine ⟨ρ, Z, FP, s.env, OutS.ex s.ext o fun x H1 Z1 _ x1 o1 v r1 => ?_⟩
  have s1 := s.step x1
  replace o1 := o1.step x1.kp x1.z
  obtain ⟨⟨a, b⟩, hp, o2⟩ := OutS.bind_ok (R := fun _ => True) (β := Unit) o1 two_ne
  have ex := two_ok hp
  subst ex
  obtain ⟨l, xs, ev, q1, l1⟩ := tup_rep r1
  simp only [RepL] at l1
  obtain ⟨va, r, e1, ra, vb, r', e2, rb, e3⟩ := l1
  subst ev e1 e2 e3
  refine ⟨l, _, rfl, q1, rfl, va, [vb], rfl, ?_⟩
  refine putD_use s1 o2 ra fun ρ2 H2 Z2 s2 kp2 z2 o3 => ⟨vb, [], rfl, ?_⟩
  exact putD_use s2 o3 (Rep.kp kp2 z2 _ _ rb) fun ρ3 H3 Z3 s3 kp3 z3 o4 => ⟨rfl, o4 H3 Z3 σ FP s3 .refl fun _ h => h⟩
theorem snd_xp (D : Ends) (σ : Pi.St) (H : Hp) (h : GS X W (fun ρ => f ρ >>= fun _ => .ok (.nx ρ)) D σ H) : tDrop (GE X W f) D σ H := by
  obtain ⟨ρ, Z, FP, H0, Z0, s, o⟩ := h
  refine ⟨ρ, Z, FP, s.env, OutS.ex s.ext o fun x H1 Z1 _ x1 o1 v r1 => ?_⟩
  exact (o1.step x1.kp x1.z) H1 Z1 σ FP (s.step x1) .refl fun _ h => h
end
end Pi

set_option Elab.async false
set_option linter.all false
set_option maxRecDepth 100000
set_option maxHeartbeats 4000000
/-! Pi23: several names at once; raise; try. -/
namespace Pi
open PySem PySem.Spec PyProof.Rows L2
section
variable {K : Fr} {H H0 : Hp} {Z Z0 Z2 : Addr → Prop} {FP FP0 : Nat → List Addr}
theorem ResL.grow (z : ∀ a, Z a → Z2 a) : ∀ {as : List (Mo × D)} {G : List Addr} {vs : List V}, ResL K H0 H Z FP as G vs → (∀ a ∈ G, ¬ Z2 a) → noBo as = true → ResL K H0 H Z2 FP as G vs
  | [], _, _, h, _, _ => by simp only [ResL] at h ⊢; exact h
  | (m, d) :: r, _, _, h, hG, nb => by
    simp only [ResL] at h ⊢
    obtain ⟨v, vs', G1, G2, e, eG, dj, h1, h2⟩ := h
    subst eG
    have nb2 : noBo r = true := by unfold noBo at nb ⊢; simp only [List.any_cons, Bool.not_or, Bool.and_eq_true] at nb; exact nb.2
    refine ⟨v, vs', G1, G2, e, rfl, dj, ?_, ResL.grow z h2 (fun a ha => hG a (List.mem_append_right _ ha)) nb2⟩
    cases m with
    | fz => exact ⟨h1.1, Rep.kp .refl z _ _ h1.2⟩
    | ow => exact ⟨Own.kp .refl z _ _ _ (fun _ _ => rfl) (fun a ha => hG a (List.mem_append_left _ ha)) h1.1, h1.2⟩
    | bo => unfold noBo at nb; simp at nb
def setS (σ : Pi.St) : List (Nat × Bool) → List V → Pi.St
  | (i, _) :: r, v :: vs => setS (σ.set i (some v)) r vs
  | _, _ => σ
theorem SI.setVs : ∀ (is : List (Nat × Bool)) (as : List (Mo × D)) (G : List Addr) (vs : List V) (Z : Addr → Prop) (ρ ρ' : Rho) (σ : Pi.St) (FP : Nat → List Addr), SI K H0 Z0 H Z ρ σ FP → ResL K H0 H Z FP0 as G vs → (∀ j, ∀ a ∈ FP j, a ∉ G) → noBo as = true → Pi.setVs ρ is as = .ok ρ' →
    ∃ Z2 FP2, SI K H0 Z0 H Z2 ρ' (setS σ is vs) FP2 ∧ ∀ a, Z a → Z2 a
  | [], [], G, vs, Z, ρ, ρ', σ, FP, s, r, off, nb, h => by
    unfold Pi.setVs at h
    cases h
    simp only [ResL] at r
    rw [r.2]
    exact ⟨Z, FP, s, fun _ h => h⟩
  | [], _ :: _, G, vs, Z, ρ, ρ', σ, FP, s, r, off, nb, h => by unfold Pi.setVs at h; cases h
  | (i, w) :: is, [], G, vs, Z, ρ, ρ', σ, FP, s, r, off, nb, h => by unfold Pi.setVs at h; cases h
  | (i, w) :: is, (m, d) :: as, G, vs, Z, ρ, ρ', σ, FP, s, r, off, nb, h => by
    unfold Pi.setVs at h
    obtain ⟨ρ1, h1, h2⟩ := bind_eq_ok h
    have hn := r.new
    have ht := r.there
    simp only [ResL] at r
    obtain ⟨v, vs', G1, G2, e, eG, dj, r1, r2⟩ := r
    subst eG e
    have nb2 : noBo as = true := by unfold noBo at nb ⊢; simp only [List.any_cons, Bool.not_or, Bool.and_eq_true] at nb; exact nb.2
    have key : m = .fz ∧ G1 = [] ∧ Rep K H Z d v ∨ m = .ow ∧ Own K H Z d G1 v := by
      cases m with
      | fz => exact .inl ⟨rfl, r1.1, r1.2⟩
      | ow => exact .inr ⟨rfl, r1.1⟩
      | bo => unfold noBo at nb; simp at nb
    obtain ⟨Z2, FP2, s2, z2, z3, f2⟩ := s.setV key ⟨fun a ha => hn a (List.mem_append_left _ ha), fun j a ha hg => off j a ha (List.mem_append_left _ hg)⟩ h1
    have r3 := r2.grow z2 (fun a ha hz => by
      rcases z3 a hz with q | q
      · exact (ht a (List.mem_append_right _ ha)).1 q
      · exact dj a q ha) nb2
    obtain ⟨Z4, FP4, s4, z4⟩ := SI.setVs is as G2 vs' Z2 ρ1 ρ' _ FP2 s2 r3 (fun j a ha hg => by
      rcases f2 j a ha with q | q
      · exact off j a q (List.mem_append_right _ hg)
      · exact dj a q hg) nb2 h2
    exact ⟨Z4, FP4, s4, fun a h => z4 a (z2 a h)⟩
end
theorem setVs_ne : ∀ {is : List (Nat × Bool)} {as : List (Mo × D)} {ρ : Rho} (c : Str) (p : D), setVs ρ is as ≠ .er c p
  | [], [], _, c, p => by unfold setVs; exact fun h => nomatch h
  | [], _ :: _, _, c, p => by unfold setVs; exact fun h => nomatch h
  | _ :: _, [], _, c, p => by unfold setVs; exact fun h => nomatch h
  | (i, w) :: is, a :: as, ρ, c, p => by
    unfold setVs
    intro h
    cases hs : setV ρ i w a with
    | ok ρ1 => rw [hs] at h; exact setVs_ne c p (show setVs ρ1 is as = .er c p from h)
    | er c2 p2 => exact setV_ne c2 p2 hs
    | st => rw [hs] at h; cases h
theorem setVs_nobo : ∀ {is : List (Nat × Bool)} {as : List (Mo × D)} {ρ ρ' : Rho}, setVs ρ is as = .ok ρ' → noBo as = true ∧ is.length = as.length
  | [], [], _, _, _ => ⟨rfl, rfl⟩
  | [], _ :: _, _, _, h => by unfold setVs at h; cases h
  | _ :: _, [], _, _, h => by unfold setVs at h; cases h
  | (i, w) :: is, (m, d) :: as, ρ, ρ', h => by
    unfold setVs at h
    obtain ⟨ρ1, h1, h2⟩ := bind_eq_ok h
    obtain ⟨h3, h4⟩ := setVs_nobo h2
    refine ⟨?_, by rw [List.length_cons, List.length_cons, h4]⟩
    unfold setV at h1
    split at h1
    · cases m with
      | fz => unfold noBo at h3 ⊢; simpa using h3
      | ow => unfold noBo at h3 ⊢; simpa using h3
      | bo => cases h1
    · cases h1
section
variable {X : Cx} {W : WX} {f : Rho → Res (Mo × Pi.D)} {g : Rho → Res (List (Mo × Pi.D))}
theorem par_use {is : List (Nat × Bool)} (D : Ends) (σ : Pi.St) (H : Hp) (h : GS X W (fun ρ => g ρ >>= fun as => setVs ρ is as >>= fun ρ => .ok (.nx ρ)) D σ H) : GA X W g σ H (fun vs H1 => vs.length = is.length ∧ D.nx (setS σ is vs) H1) := by
  obtain ⟨ρ, Z, FP, H0, Z0, s, o⟩ := h
  refine ⟨ρ, Z, FP, s.env, OutS.ex s.ext o fun as H1 Z1 _ x1 o1 G vs r1 => ?_⟩
  obtain ⟨ρ', h1, o2⟩ := OutS.bind_ok (R := fun _ => True) (β := Unit) o1 setVs_ne
  obtain ⟨nb, hl⟩ := setVs_nobo h1
  obtain ⟨Z2, FP2, s2, z2⟩ := SI.setVs is as G vs Z1 ρ ρ' σ FP (s.step x1) (r1.back s.ext.same) (fun j a ha hg => by
    obtain ⟨_, u, hu, _⟩ := s.env.dom ha
    rw [r1.new a hg] at hu
    cases hu) nb h1
  exact ⟨by rw [r1.length, hl], o2 H1 Z2 _ FP2 s2 x1.kp fun a h => z2 a (x1.z a h)⟩
theorem snd_par2 {i j : Nat} {w1 w2 : Bool} (D : Ends) (σ : Pi.St) (H : Hp) (h : GS X W (fun ρ => g ρ >>= fun as => setVs ρ [(i, w1), (j, w2)] as >>= fun ρ => .ok (.nx ρ)) D σ H) : tPar i j (GA X W g) D σ H := by
  obtain ⟨ρ, Z, FP, e, o⟩ := par_use D σ H h
  refine ⟨ρ, Z, FP, e, Out.imp o fun as H' Z' _ q G vs r => ?_⟩
  obtain ⟨h1, h2⟩ := q G vs r
  match vs, h1, h2 with
  | [v, w], _, h2 => exact ⟨v, w, rfl, h2⟩
theorem snd_par3 {i j l : Nat} {w1 w2 w3 : Bool} (D : Ends) (σ : Pi.St) (H : Hp) (h : GS X W (fun ρ => g ρ >>= fun as => setVs ρ [(i, w1), (j, w2), (l, w3)] as >>= fun ρ => .ok (.nx ρ)) D σ H) : tPar3 i j l (GA X W g) D σ H := by
  obtain ⟨ρ, Z, FP, e, o⟩ := par_use D σ H h
  refine ⟨ρ, Z, FP, e, Out.imp o fun as H' Z' _ q G vs r => ?_⟩
  obtain ⟨h1, h2⟩ := q G vs r
  match vs, h1, h2 with
  | [u, v, w], _, h2 => exact ⟨u, v, w, rfl, h2⟩

/-! ### raise, try -/
/-- the classes -/
def XsOk (xs : Xs) (X : Cx) : Prop := ∀ (g : Nat) (c : Str), xs.ex[g]? = some c → ∃ (C : Addr) (B newId initId : String) (bmB : List Value), X.mg c = some (.ref C) ∧ ExcBaseFacts B newId initId bmB ∧ PySem.W.excIn X.K C bmB newId = true ∧ PySem.W.keepIn X.K (.ref C) = true ∧ Raises X (.ref C) ∧ PySem.W.exmOne X.K (.ref C) (.ref C) = some true
theorem snd_raise {xs : Xs} {gi : Nat} {x m : Str} {j : Nat} {p p2 pos pos2 : Pos} (hx : XsOk xs X) (hc : X.calm = true) (tk : Takes X W) (hg : xs.ex[gi]? = some x) (gl : Gl X x) (hd : (x == ("__debug__" : Str)) = false) (T : Tab) :
    PS X (.Raise (some (.Call (.Name x p) [.Constant (.str m) j p2] [] pos)) none pos2) (GS X W (fun _ => erG T xs.ex gi)) := by
  obtain ⟨C, B, newId, initId, bmB, h1, h2, h3, h4, h5, _⟩ := hx gi x hg
  refine PS.imp (ps_raise hc tk (pmk_own h2 h3 h1 h4 h5 gl hd)) fun D σ H ⟨ρ, Z, FP, H0, Z0, s, o⟩ => ?_
  unfold erG at o
  rw [hg] at o
  have q := o σ H Z s.ext
  have e : clsV X x = .ref C := by unfold clsV; rw [h1]; rfl
  rw [e] at q
  exact q
/-- try: return e / except x: return None -/
theorem snd_try {xs : Xs} {gi : Nat} {x : Str} {e : Expr} {j : Nat} {np p1 p2 p3 p4 pos : Pos} (hx : XsOk xs X) (hg : xs.ex[gi]? = some x) (gl : Gl X x) (hd : (x == ("__debug__" : Str)) = false) (hs : X.stack = X.env :: X.outer) (hf : X.env.frame = some X.env.locals) (tk : Takes X W)
    (he : ∀ (W' : WX) (pn : List (Addr × Obj)) (xe : Value → Shared → Prop), Takes (X.tr pn xe) W' → PE (X.tr pn xe) e (GE X W' f)) :
    PS X (.Try [.Return (some e) p1] [.ExceptHandler (some (.Name x np)) none [.Return (some (.Constant .none j p2)) p3] p4] [] [] pos) (GS X W (fun ρ => match f ρ with
      | .ok x => retG x
      | .er c p => match xs.ex[gi]? with
        | some h => if c = h then .ok (.rt .fz .non) else .st
        | none => .st
      | .st => .st)) := by
  obtain ⟨C, B, newId, initId, bmB, h1, h2, h3, h4, h5, h6⟩ := hx gi x hg
  refine PS.imp (ps_try_only (tb := fun W' => GS X W' (fun ρ => f ρ >>= fun x => retG x)) (ts := fun _ _ _ => tRet (tC .non)) hs hf ⟨gl, hd, .inl h1⟩ tk (fun W' pn xe tk' _ => pss_one (PS.imp (ps_ret (he W' pn xe tk')) snd_ret)) (fun a oe cls d pn _ _ => pss_one (ps_ret pe_non))) fun D σ H ⟨ρ, Z, FP, H0, Z0, s, o⟩ => ?_
  refine ⟨ρ, Z, FP, H0, Z0, s, ?_⟩
  show OutS X (wOnly X.K (.ref C) (fun _ _ _ => tRet (tC .non)) W D) D H0 Z0 H Z (f ρ >>= fun x => retG x)
  cases hr : f ρ with
  | ok y =>
    simp only [hr] at o
    show OutS X _ D H0 Z0 H Z (retG y)
    obtain ⟨m, d⟩ := y
    cases m <;> exact o
  | er c p =>
    simp only [hr, hg] at o
    split at o
    · rename_i ec
      subst ec
      refine fun σ' H' Z' xx => ⟨true, ?_, fun _ a _ => ?_, fun z => by cases z⟩
      · have e : clsV X c = .ref C := by unfold clsV; rw [h1]; rfl
        rw [e]
        exact h6
      · exact o.2 .non H' Z' xx (by show Rep _ _ _ _ _; simp only [Rep])
    · exact o.elim
  | st => simp only [hr] at o; exact o
end
end Pi

set_option Elab.async false
set_option linter.all false
set_option maxRecDepth 100000
set_option maxHeartbeats 4000000
/-! Pi24: when a statement of the text is such a term. -/
namespace Pi
open PySem PySem.Spec PyProof.Rows L2
def locB (k : Ck) (x : Str) : Bool := decide (k.sc.names.lookup x = some .local) || (k.fl && decide (k.sc.names.lookup x = some .cell))
/-- name = [..] on one line: the stores are swapped -/
def swSet (k : Ck) (x : Str) (p : Pos) (v : Expr) : Bool := match v with
  | .ListComp _ _ s q => (k.sc.names.lookup x == some .local) && p.line == q.line && !(s.names.any fun (n, kk) => n == x && (kk == .local || kk == .cell))
  | .DictComp _ _ _ s q => (k.sc.names.lookup x == some .local) && p.line == q.line && !(s.names.any fun (n, kk) => n == x && (kk == .local || kk == .cell))
  | _ => false
def noComp : Expr → Bool
  | .ListComp _ _ _ _ => false
  | .SetComp _ _ _ _ => false
  | .DictComp _ _ _ _ _ => false
  | _ => true
def isTup : Expr → Bool
  | .Tuple _ _ _ => true
  | _ => false
/-- which stores are swapped -/
def swR (sc : Scope) (ts vs : List Expr) : Option (Option (List Str)) :=
  if (!(ts.length == 2 || ts.length == 3) || vs.length != ts.length) = true then some none else
  if (vs.any fun | .Starred .. => true | _ => false) = true then some none else
  let line := (ts.head?.map (·.pos.line)).getD 0
  let names := ts.filterMap fun
    | .Name id pos => if sc.names.lookup id == some .local && pos.line == line then some id else none
    | _ => none
  if (names.length != ts.length || names.eraseDups.length != names.length) = true then some none else
  if vs.all (foldedForSure 8) = true then some none else
  if vs.all (constantsAlone 8) = true then none else some (some names)
/-- a, b = .. : not swapped -/
def asgB (k : Ck) (t : List Expr) (v : Expr) : Bool := match v with
  | .Tuple vs _ _ => match swR k.sc t vs with
    | some none => true
    | _ => false
  | .ListComp _ _ _ _ => false
  | .SetComp _ _ _ _ => false
  | .DictComp _ _ _ _ _ => false
  | _ => true
mutual
def chkS (xs : Xs) : S → Ck → Stmt → Bool
  | .skip, k, s => match s with
    | .Pass _ => true
    | .Expr (.Constant (.str _) _ _) _ => true
    | _ => false
  | .set i own e, k, s => match s with
    | .Assign [.Name x p] v pos => decide (k.N[i]? = some x) && locB k x && chk e k v
    | _ => false
  | .asg t e, k, s => match s with
    | .Assign [.Tuple ts a b] v pos => chkT k t (.Tuple ts a b) && asgB k ts v && chk e k v
    | _ => false
  | .par is es, k, s => match is, s with
    | [(i, _), (j, _)], .Assign [.Tuple [.Name x px, .Name y py] kt pt] (.Tuple [a, b] k2 pt2) pos => decide (k.N[i]? = some x) && decide (k.N[j]? = some y) && decide (i ≠ j) && decide (k.sc.names.lookup x = some .local) && decide (k.sc.names.lookup y = some .local) &&
        decide (swR k.sc [.Name x px, .Name y py] [a, b] = some (some [x, y])) && chks es k [a, b]
    | [(i, _), (j, _), (l, _)], .Assign [.Tuple [.Name x px, .Name y py, .Name z pz] kt pt] (.Tuple [a, b, c] k2 pt2) pos => decide (k.N[i]? = some x) && decide (k.N[j]? = some y) && decide (k.N[l]? = some z) && decide (i ≠ j) && decide (i ≠ l) && decide (j ≠ l) &&
        decide (k.sc.names.lookup x = some .local) && decide (k.sc.names.lookup y = some .local) && decide (k.sc.names.lookup z = some .local) &&
        decide (swR k.sc [.Name x px, .Name y py, .Name z pz] [a, b, c] = some (some [x, y, z])) && chks es k [a, b, c]
    | _, _ => false
  | .aug i o e, k, s => match s with
    | .AugAssign (.Name x p) op v pos => decide (k.N[i]? = some x) && locB k x && decide (o.bin = some op) && decide (o = .add ∨ o = .sub ∨ o = .mul) && chk e k v
    | _ => false
  | .setI i key e, k, s => match s with
    | .Assign [.Subscript (.Name x p) ik p2] v pos => decide (k.N[i]? = some x) && visB k.sc x && okName x && noComp v && plainE ik && chk key k ik && chk e k v
    | _ => false
  | .put2 i k1 j k2 e, k, s => match s with
    | .Assign [.Tuple [.Subscript (.Name x p) ik p2, .Subscript (.Name y q) jk q2] a b] v pos => decide (k.N[i]? = some x) && visB k.sc x && okName x && decide (k.N[j]? = some y) && visB k.sc y && okName y && plainE ik && plainE jk &&
        asgB k [.Subscript (.Name x p) ik p2, .Subscript (.Name y q) jk q2] v && chk k1 k ik && chk k2 k jk && chk e k v
    | _ => false
  | .xp e, k, s => match s with
    | .Expr (.Call a b c p) _ => chk e k (.Call a b c p)
    | _ => false
  | .app i e, k, s => match s with
    | .Expr (.Call (.Attribute (.Name x p) n ap) [v] [] cp) pos => decide (n = "append") && decide (k.N[i]? = some x) && visB k.sc x && okName x && (ap.endLine == cp.line) && plainE v && chk e k v
    | _ => false
  | .ext i e, k, s => match s with
    | .Expr (.Call (.Attribute (.Name x p) n ap) [v] [] cp) pos => decide (n = "extend") && decide (k.N[i]? = some x) && visB k.sc x && okName x && (ap.endLine == cp.line) && plainE v && chk e k v
    | _ => false
  | .upd i e, k, s => match s with
    | .Expr (.Call (.Attribute (.Name x p) n ap) [v] [] cp) pos => decide (n = "update") && decide (k.N[i]? = some x) && visB k.sc x && okName x && (ap.endLine == cp.line) && plainE v && chk e k v
    | _ => false
  | .setd i key e, k, s => match s with
    | .Expr (.Call (.Attribute (.Name x p) n ap) [u, v] [] cp) pos => decide (n = "setdefault") && decide (k.N[i]? = some x) && visB k.sc x && okName x && (ap.endLine == cp.line) && plainE u && plainE v && chk key k u && chk e k v
    | _ => false
  | .ret e, k, s => match s with
    | .Return (some v) _ => chk e k v
    | _ => false
  | .retN, k, s => match s with
    | .Return none _ => true
    | _ => false
  | .ite c a b, k, s => match s with
    | .If x l r _ => c.tst && chk c k x && chkSs xs a k l && chkSs xs b k r
    | _ => false
  | .for t it b, k, s => match s with
    | .For tg i l [] _ => plainE i && chkT k t tg && chki it k tg i && chkSs xs b k l
    | _ => false
  | .brk, k, s => match s with
    | .Break _ => true
    | _ => false
  | .cnt, k, s => match s with
    | .Continue _ => true
    | _ => false
  | .raise g, k, s => match s with
    | .Raise (some (.Call (.Name x _) [.Constant (.str _) _ _] [] _)) none _ => decide (xs.ex[g]? = some x) && glB k.sc x && okName x
    | _ => false
  | .try1 g e, k, s => match s with
    | .Try [.Return (some v) _] [.ExceptHandler (some (.Name x _)) none [.Return (some (.Constant .none _ _)) _] _] [] [] _ => decide (xs.ex[g]? = some x) && glB k.sc x && okName x && chk e k v
    | _ => false
def chkSs (xs : Xs) : Ss → Ck → List Stmt → Bool
  | .nil, k, l => match l with
    | [] => true
    | _ => false
  | .cons s r, k, l => match l with
    | x :: t => chkS xs s k x && chkSs xs r k t
    | [] => false
  | .frz i r, k, l => chkSs xs r k l
end
structure SkOk (xs : Xs) (k : Ck) (X : Cx) (W : WX) : Prop where
  ck : CkOk k X W
  po : PassesOwn (model X.prog X.w) X.A X.env X.xe
  st : X.stack = X.env :: X.outer
  fr : X.env.frame = some X.env.locals
  xs : XsOk xs X
  kind : k.sc.kind = .function
  fn : ∀ x, X.fn x = true
section
variable {xs : Xs} {k : Ck} {X : Cx} {W : WX}
theorem SkOk.loc (c : SkOk xs k X W) {x : Str} (h : locB k x = true) : L2.Loc X.env.scope x := by
  unfold locB at h
  simp only [Bool.or_eq_true, Bool.and_eq_true, decide_eq_true_eq] at h
  unfold L2.Loc
  rw [c.ck.sc]
  exact h.imp id (·.2)
theorem SkOk.blk (c : SkOk xs k X W) : X.env.blockKind = .function := by
  unfold Env.blockKind
  rw [c.ck.sc, c.kind]
  rfl
theorem chk_nocomp {e : E} {v : Expr} (h : chk e k v = true) : ∀ a g s p, v ≠ .SetComp a g s p := by
  intro a g s p ev
  subst ev
  cases e <;> (unfold chk at h; cases h)
theorem swSet_eq (c : SkOk xs k X W) {x : Str} {p : Pos} {v : Expr} {n : Nat} (h1 : ∀ a g s p, v ≠ .SetComp a g s p) : swapsWith v (some (.Name x p)) n X.env = pure (swSet k x p v) := by
  cases v with
  | ListComp a g s q =>
    show (pure (X.env.blockKind == .function && X.env.kindOf x == some .local && p.line == (Expr.ListComp a g s q).pos.line && !(s.names.any fun (n, k) => n == x && (k == .local || k == .cell))) : Sem Bool) = _
    rw [c.blk]
    unfold Env.kindOf
    rw [c.ck.sc]
    rfl
  | DictComp a b g s q =>
    show (pure (X.env.blockKind == .function && X.env.kindOf x == some .local && p.line == (Expr.DictComp a b g s q).pos.line && !(s.names.any fun (n, k) => n == x && (k == .local || k == .cell))) : Sem Bool) = _
    rw [c.blk]
    unfold Env.kindOf
    rw [c.ck.sc]
    rfl
  | SetComp a g s q => exact absurd rfl (h1 _ _ _ _)
  | _ => rfl
theorem swaps_nc {v : Expr} {t : Expr} {n : Nat} (h : noComp v = true) : swapsWith v (some t) n X.env = pure false := by
  cases v <;> first | (cases h; done) | rfl
theorem swR_eq (c : SkOk xs k X W) {ts vs : List Expr} {a d : Nat} {b e : Pos} {r : Option (List Str)} (h : swR k.sc ts vs = some r) : swappedStores [.Tuple ts a b] (.Tuple vs d e) X.env = pure r := by
  unfold swR at h
  unfold swappedStores
  simp only [c.blk]
  unfold Env.kindOf
  rw [c.ck.sc]
  have hk : (ScopeKind.function != ScopeKind.function) = false := by decide
  rw [hk, Bool.or_false]
  split at h
  · rename_i h1
    cases h
    exact if_pos h1
  · rename_i h1
    refine (if_neg h1).trans ?_
    split at h
    · rename_i h2
      cases h
      exact if_pos h2
    · rename_i h2
      refine (if_neg h2).trans ?_
      simp only at h
      split at h
      · rename_i h3
        cases h
        exact if_pos h3
      · rename_i h3
        refine (if_neg h3).trans ?_
        split at h
        · rename_i h4
          cases h
          exact if_pos h4
        · rename_i h4
          refine (if_neg h4).trans ?_
          split at h
          · cases h
          · rename_i h5
            cases h
            exact if_neg h5

theorem asg_none (c : SkOk xs k X W) {ts : List Expr} {a : Nat} {b : Pos} {v : Expr} (h : asgB k ts v = true) : swappedStores [.Tuple ts a b] v X.env = pure none := by
  unfold asgB at h
  cases v with
  | Tuple vs d e =>
    simp only at h
    split at h
    · rename_i hr
      exact swR_eq c hr
    · cases h
  | _ => rfl
theorem asg_sole {ts : List Expr} {a : Nat} {b : Pos} {v : Expr} {n : Nat} (h : asgB k ts v = true) : swapsWithSole [.Tuple ts a b] v n X.env = pure false := by
  unfold asgB at h
  cases v <;> first | (cases h; done) | rfl
/-- x.m(v), a statement -/
theorem ps_meth1 {i : Nat} {x name : Str} {p ap cp pos : Pos} {v : Expr} {T id : String} {r : V → List V → Hp → VK → Prop} {ty : V → Hp → Prop} {f : Rho → Res (Mo × D)} (c : SkOk xs k X W) (hN : k.N[i]? = some x) (hv : visB k.sc x = true) (hn : okName x = true) (hl : (ap.endLine == cp.line) = true) (hp : plainE v = true)
    (ht : TyIs X T ty) (pa : PlainAttrs T) (slot : Slot T name id) (hty : typeOf (.builtin id) = pure (.type "method_descriptor")) (hm : MtR X id r) (he : PE X v (GE X W f)) :
    PS X (.Expr (.Call (.Attribute (.Name x p) name ap) [v] [] cp) pos) (tDrop (tBX ty r (tVar i) (tCons (GE X W f) tNil))) :=
  ps_expr (pe_bmX ht pa slot hty hm (pe_var (by rw [c.ck.hN]; exact hN) (c.ck.vis hv) (okName_of hn).1 (okName_of hn).2.1) (pa_one hp he) rfl (few1 hp _ _) hl (plainE_star hp [] X.env) rfl) rfl
theorem SI.frz {K : Fr} {H0 H : Hp} {Z0 Z : Addr → Prop} {ρ : Rho} {σ : Pi.St} {FP : Nat → List Addr} (s : SI K H0 Z0 H Z ρ σ FP) {i : Nat} {w : Bool} {d : D} (h : ρ[i]? = some (some (w, d))) :
    SI K H0 Z0 H (fun a => Z a ∨ a ∈ FP i) (ρ.set i (some (false, d))) σ (fun j => if j = i then [] else FP j) ∧ ∀ a, Z a → Z a ∨ a ∈ FP i := by
  have hi : i < ρ.length := (List.getElem?_eq_some_iff.mp h).1
  have hj : ∀ {j : Nat}, j ≠ i → (ρ.set i (some (false, d)))[j]? = ρ[j]? := fun {j} h => List.getElem?_set_ne (Ne.symm h)
  have hi2 : (ρ.set i (some (false, d)))[i]? = some (some (false, d)) := List.getElem?_set_self hi
  have ht : ∀ a ∈ FP i, H a ≠ none := fun a ha => by
    obtain ⟨_, u, hu, _⟩ := s.env.dom ha
    rw [hu]; simp
  refine ⟨⟨⟨by simp [s.env.len], fun j d' q => ?_, fun j d' q => ?_, fun j a q => ?_, fun a z => z.elim (s.env.zd a) (ht a), fun j j' a q q' => ?_⟩, Ext.freeze s.ext (s.new i) ht, fun j a q => ?_⟩, fun a z => .inl z⟩
  · by_cases hji : j = i
    · subst hji
      rw [hi2] at q
      cases q
      cases w with
      | false =>
        obtain ⟨v, h1, h2⟩ := s.env.fz j d h
        exact ⟨v, h1, Rep.kp .refl (fun _ h => .inl h) _ _ h2⟩
      | true =>
        obtain ⟨v, h1, h2⟩ := s.env.ow j d h
        exact ⟨v, h1, Own.rep (fun _ h => .inl h) d _ v (fun _ h => .inr h) h2⟩
    · rw [hj hji] at q
      obtain ⟨v, h1, h2⟩ := s.env.fz j d' q
      exact ⟨v, h1, Rep.kp .refl (fun _ h => .inl h) _ _ h2⟩
  · by_cases hji : j = i
    · subst hji
      rw [hi2] at q
      cases q
    · rw [hj hji] at q
      obtain ⟨v, h1, h2⟩ := s.env.ow j d' q
      refine ⟨v, h1, ?_⟩
      rw [if_neg hji]
      exact Own.kp .refl (fun _ h => .inl h) _ _ _ (fun _ _ => rfl) (fun a ha z => z.elim (s.env.dom ha).1 fun z => hji (s.env.dis j i a ha z)) h2
  · by_cases hji : j = i
    · rw [if_pos hji] at q; simp at q
    · rw [if_neg hji] at q
      rw [hj hji]
      exact s.env.emp j a q
  · by_cases hji : j = i
    · rw [if_pos hji] at q; simp at q
    · by_cases hji' : j' = i
      · rw [if_pos hji'] at q'; simp at q'
      · rw [if_neg hji] at q
        rw [if_neg hji'] at q'
        exact s.env.dis j j' a q q'
  · by_cases hji : j = i
    · rw [if_pos hji] at q; simp at q
    · rw [if_neg hji] at q; exact s.new j a q
mutual
theorem sndS : ∀ (s : S) (k : Ck) (X : Cx) (W : WX) (st : Stmt), SkOk xs k X W → chkS xs s k st = true → PS X st (GS X W (exS k.T xs s))
  | .skip, k, X, W, st, c, h => by
    unfold chkS at h
    split at h
    · exact PS.imp ps_pass snd_nx
    · exact PS.imp ps_doc snd_nx
    · cases h
  | .set i own e, k, X, W, st, c, h => by
    unfold chkS at h
    split at h
    · rename_i x p v pos
      simp only [Bool.and_eq_true, decide_eq_true_eq] at h
      obtain ⟨⟨h1, h2⟩, h3⟩ := h
      have n1 := chk_nocomp h3
      have hsw := swSet_eq (x := x) (p := p) (n := pos.line) c n1
      have hNn : X.N.Nodup := by rw [c.ck.hN]; exact c.ck.nd
      have hNi : X.N[i]? = some x := by rw [c.ck.hN]; exact h1
      cases hs : swSet k x p v with
      | false =>
        rw [hs] at hsw
        exact PS.imp (ps_set hNn hNi (c.loc h2) (snd e k X W v c.ck h3).pe hsw (.inl (c.fn x))) snd_set
      | true =>
        rw [hs] at hsw
        cases v with
        | ListComp y gens scope q =>
          have hloc : X.env.scope.names.lookup x = some .local := by
            unfold swSet at hs
            simp only [Bool.and_eq_true] at hs
            rw [c.ck.sc]
            exact eq_of_beq hs.1.1
          cases e with
          | lc z vs tg it cd =>
            unfold chk at h3
            split at h3
            · rename_i y' t i' ifs scope' pos' ev
              cases ev
              simp only [Bool.and_eq_true] at h3
              obtain ⟨⟨⟨⟨⟨⟨g1, g2⟩, g3⟩, g4⟩, g5⟩, g6⟩, g7⟩ := h3
              have hi := snd_i it k X W t i' c.ck g4
              have ok : BlkOk X.N X.env.scope scope (ownOf k.N vs) := by
                rw [c.ck.hN, c.ck.sc]
                exact blkOk_by g1
              have hfs : ∀ z, foldedSetIterable i' X.env z = pure z := fun z => by cases i' <;> first | rfl | (cases g3; done)
              have P := ps_setLc (elt := y) (wi := GI X W (evi k.T it)) (g := gOf X.K tg) (tt := GT X WF (evc k.T cd)) (te := GE X WF (ev k.T z)) c.ck.calm hNn hNi hloc hsw hi ok
                (fun s H C cl fp => snd_tg (c.ck.blk s H scope cl C fp).tg tg t g5)
                (fun s H C cl fp => snd_c cd (k.blk scope) _ _ ifs (c.ck.blk s H scope cl C fp) g6)
                (fun s H C cl fp => (snd z (k.blk scope) _ _ y (c.ck.blk s H scope cl C fp) g7).pe) hfs
              rw [own_snd] at P
              exact PS.imp P fun D σ H q => lc_use (tgIn_slots tg g2) σ H _ (snd_set D σ H q)
            · cases h3
          | _ => unfold chk at h3; cases h3
        | DictComp z y gens scope q =>
          have hloc : X.env.scope.names.lookup x = some .local := by
            unfold swSet at hs
            simp only [Bool.and_eq_true] at hs
            rw [c.ck.sc]
            exact eq_of_beq hs.1.1
          cases e with
          | dc kx ex vs tg it cd =>
            unfold chk at h3
            split at h3
            · rename_i z' y' t i' ifs scope' pos' ev
              cases ev
              simp only [Bool.and_eq_true] at h3
              obtain ⟨⟨⟨⟨⟨⟨⟨g1, g2⟩, g3⟩, g4⟩, g5⟩, g6⟩, g7⟩, g8⟩ := h3
              have hi := snd_i it k X W t i' c.ck g4
              have ok : BlkOk X.N X.env.scope scope (ownOf k.N vs) := by
                rw [c.ck.hN, c.ck.sc]
                exact blkOk_by g1
              have hfs : ∀ z, foldedSetIterable i' X.env z = pure z := fun z => by cases i' <;> first | rfl | (cases g3; done)
              have P := ps_setDcG (kx := z) (vx := y) (wi := GI X W (evi k.T it)) (g := gOf X.K tg) (tt := GT X WF (evc k.T cd)) (tk := GE X WF (ev k.T kx)) (tv := GE X WF (ev k.T ex)) putOk2 c.ck.calm hNn hNi hloc hsw hi ok
                (fun s H C cl fp => snd_tg (c.ck.blk s H scope cl C fp).tg tg t g5)
                (fun s H C cl fp => snd_c cd (k.blk scope) _ _ ifs (c.ck.blk s H scope cl C fp) g6)
                (fun s H C cl fp => (snd kx (k.blk scope) _ _ z (c.ck.blk s H scope cl C fp) g7).pe)
                (fun s H C cl fp => (snd ex (k.blk scope) _ _ y (c.ck.blk s H scope cl C fp) g8).pe) hfs
              rw [own_snd] at P
              exact PS.imp P fun D σ H q => dc_use (tgIn_slots tg g2) σ H _ (snd_set D σ H q)
            · cases h3
          | _ => unfold chk at h3; cases h3
        | _ => cases hs
    · cases h
  | .asg t e, k, X, W, st, c, h => by
    unfold chkS at h
    split at h
    · rename_i ts a b v pos
      simp only [Bool.and_eq_true] at h
      exact PS.imp (ps_asg (snd e k X W v c.ck h.2).pe (snd_tg c.ck.tg t _ h.1.1) (asg_sole h.1.2) (asg_none c h.1.2) rfl) snd_asg
    · cases h
  | .par is es, k, X, W, st, c, h => by
    unfold chkS at h
    split at h
    · rename_i i w1 j w2 x px y py kt pt a b k2 pt2 pos
      simp only [Bool.and_eq_true, decide_eq_true_eq] at h
      obtain ⟨⟨⟨⟨⟨⟨h1, h2⟩, h3⟩, h4⟩, h5⟩, h6⟩, h7⟩ := h
      exact PS.imp (ps_par c.ck.calm (by rw [c.ck.hN]; exact c.ck.nd) (by rw [c.ck.hN]; exact h1) (by rw [c.ck.hN]; exact h2) h3 (by rw [c.ck.sc]; exact h4) (by rw [c.ck.sc]; exact h5) (snd_s es k X W _ c.ck h7) (swR_eq c h6) rfl) snd_par2
    · rename_i i w1 j w2 l w3 x px y py z pz kt pt a b d k2 pt2 pos
      simp only [Bool.and_eq_true, decide_eq_true_eq] at h
      obtain ⟨⟨⟨⟨⟨⟨⟨⟨⟨⟨h1, h2⟩, h3⟩, h4⟩, h5⟩, h6⟩, h7⟩, h8⟩, h9⟩, h10⟩, h11⟩ := h
      exact PS.imp (ps_par3 c.ck.calm (by rw [c.ck.hN]; exact c.ck.nd) (by rw [c.ck.hN]; exact h1) (by rw [c.ck.hN]; exact h2) (by rw [c.ck.hN]; exact h3) h4 h5 h6 (by rw [c.ck.sc]; exact h7) (by rw [c.ck.sc]; exact h8) (by rw [c.ck.sc]; exact h9) (snd_s es k X W _ c.ck h11) (swR_eq c h10) rfl) snd_par3
    · cases h
  | .aug i o e, k, X, W, st, c, h => by
    unfold chkS at h
    split at h
    · rename_i x p op v pos
      simp only [Bool.and_eq_true, decide_eq_true_eq] at h
      obtain ⟨⟨⟨⟨h1, h2⟩, h3⟩, h4⟩, h5⟩ := h
      exact PS.imp (ps_aug (by rw [c.ck.hN]; exact c.ck.nd) (by rw [c.ck.hN]; exact h1) (c.loc h2) (snd e k X W v c.ck h5).pe (pip_of h3 h4) (.inl (c.fn x))) snd_aug
    · cases h
  | .setI i key e, k, X, W, st, c, h => by
    unfold chkS at h
    split at h
    · rename_i x p ik p2 v pos
      simp only [Bool.and_eq_true, decide_eq_true_eq] at h
      obtain ⟨⟨⟨⟨⟨⟨h1, h2⟩, h3⟩, h4⟩, hik⟩, h5⟩, h6⟩ := h
      have hsw : swapsWithSole [.Subscript (.Name x p) ik p2] v pos.line X.env = pure false := swaps_nc (X := X) (v := v) (t := .Subscript (.Name x p) ik p2) (n := pos.line) h4
      exact PS.imp (ps_asg (snd e k X W v c.ck h6).pe (pg_sub (pe_var (by rw [c.ck.hN]; exact h1) (c.ck.vis h2) (okName_of h3).1 (okName_of h3).2.1) (snd key k X W ik c.ck h5).pe (set_all (by have := c.ck.un; omega)) (fun _ => by cases ik <;> first | rfl | (cases hik; done))) hsw (by cases v <;> rfl) rfl) snd_setI
    · cases h
  | .put2 i k1 j k2 e, k, X, W, st, c, h => by
    unfold chkS at h
    split at h
    · rename_i x p ik p2 y q jk q2 a b v pos
      simp only [Bool.and_eq_true, decide_eq_true_eq] at h
      obtain ⟨⟨⟨⟨⟨⟨⟨⟨⟨⟨⟨h1, h2⟩, h3⟩, h4⟩, h5⟩, h6⟩, h7⟩, h8⟩, h9⟩, h10⟩, h11⟩, h12⟩ := h
      have hu : X.A.units + 1 < cLine := by have := c.ck.un; omega
      have g1 := pg_sub (pos := p2) (pe_var (pos := p) (by rw [c.ck.hN]; exact h1) (c.ck.vis h2) (okName_of h3).1 (okName_of h3).2.1) (snd k1 k X W ik c.ck h10).pe (set_all hu) (fun _ => by cases ik <;> first | rfl | (cases h7; done))
      have g2 := pg_sub (pos := q2) (pe_var (pos := q) (by rw [c.ck.hN]; exact h4) (c.ck.vis h5) (okName_of h6).1 (okName_of h6).2.1) (snd k2 k X W jk c.ck h11).pe (set_all hu) (fun _ => by cases jk <;> first | rfl | (cases h8; done))
      exact PS.imp (ps_asg (snd e k X W v c.ck h12).pe (pg_tup c.ck.calm (pgs_cons g1 (pgs_cons g2 pgs_nil))) (asg_sole h9) (asg_none c h9) rfl) snd_put2
    · cases h
  | .xp e, k, X, W, st, c, h => by
    unfold chkS at h
    split at h
    · exact PS.imp (ps_expr (snd e k X W _ c.ck h).pe rfl) snd_xp
    · cases h
  | .app i e, k, X, W, st, c, h => by
    unfold chkS at h
    split at h
    · rename_i x p n ap v cp pos
      simp only [Bool.and_eq_true, decide_eq_true_eq] at h
      obtain ⟨⟨⟨⟨⟨⟨h0, h1⟩, h2⟩, h3⟩, h4⟩, h5⟩, h6⟩ := h
      subst h0
      exact PS.imp (ps_meth1 c h1 h2 h3 h4 h5 ty_tyV F.plainAttrs_list F.slot_list_append F.type_list_append mt_append (snd e k X W v c.ck h6).pe) snd_app
    · cases h
  | .ext i e, k, X, W, st, c, h => by
    unfold chkS at h
    split at h
    · rename_i x p n ap v cp pos
      simp only [Bool.and_eq_true, decide_eq_true_eq] at h
      obtain ⟨⟨⟨⟨⟨⟨h0, h1⟩, h2⟩, h3⟩, h4⟩, h5⟩, h6⟩ := h
      subst h0
      exact PS.imp (ps_meth1 c h1 h2 h3 h4 h5 ty_tyV F.plainAttrs_list F.slot_list_extend F.type_list_extend mt_extend (snd e k X W v c.ck h6).pe) snd_ext
    · cases h
  | .upd i e, k, X, W, st, c, h => by
    unfold chkS at h
    split at h
    · rename_i x p n ap v cp pos
      simp only [Bool.and_eq_true, decide_eq_true_eq] at h
      obtain ⟨⟨⟨⟨⟨⟨h0, h1⟩, h2⟩, h3⟩, h4⟩, h5⟩, h6⟩ := h
      subst h0
      exact PS.imp (ps_meth1 c h1 h2 h3 h4 h5 ty_dic F.plainAttrs_dict F.slot_dict_update F.type_dict_update mt_upd (snd e k X W v c.ck h6).pe) snd_upd
    · cases h
  | .setd i key e, k, X, W, st, c, h => by
    unfold chkS at h
    split at h
    · rename_i x p n ap u v cp pos
      simp only [Bool.and_eq_true, decide_eq_true_eq] at h
      obtain ⟨⟨⟨⟨⟨⟨⟨⟨h0, h1⟩, h2⟩, h3⟩, h4⟩, h5⟩, h6⟩, h7⟩, h8⟩ := h
      subst h0
      have hs : starEach [u, v] X.env = (false, eval u X.env) :: starEach [v] X.env := plainE_star h5 [v] X.env
      have pa : PA X [u, v] (tCons (GE X W (ev k.T key)) (tCons (GE X W (ev k.T e)) tNil)) := pa_cons (snd key k X W u c.ck h7).pe (pa_one h6 (snd e k X W v c.ck h8).pe) hs
      exact PS.imp (ps_expr (pe_bmX ty_dic F.plainAttrs_dict F.slot_dict_setdefault F.type_dict_setdefault mt_setd (pe_var (by rw [c.ck.hN]; exact h1) (c.ck.vis h2) (okName_of h3).1 (okName_of h3).2.1) pa rfl
        (by rw [hs, plainE_star h6]; rfl) h4 hs (stars_any (by rw [List.all_cons, h6]; rfl))) rfl) snd_setd
    · cases h
  | .ret e, k, X, W, st, c, h => by
    unfold chkS at h
    split at h
    · rename_i v p
      exact PS.imp (ps_ret (snd e k X W v c.ck h).pe) snd_ret
    · cases h
  | .retN, k, X, W, st, c, h => by
    unfold chkS at h
    split at h
    · exact PS.imp ps_retN snd_retN
    · cases h
  | .ite d a b, k, X, W, st, c, h => by
    unfold chkS at h
    split at h
    · rename_i x l r p
      simp only [Bool.and_eq_true] at h
      exact PS.imp (ps_if ((snd d k X W x c.ck h.1.1.2).pt h.1.1.1) (sndSs a k X W l c h.1.2) (sndSs b k X W r c h.2)) snd_if
    · cases h
  | .for t it b, k, X, W, st, c, h => by
    unfold chkS at h
    split at h
    · rename_i tg i l p
      simp only [Bool.and_eq_true] at h
      obtain ⟨⟨⟨h1, h2⟩, h3⟩, h4⟩ := h
      have hfs : ∀ z, foldedSetIterable i X.env z = pure z := fun z => by cases i <;> first | rfl | (cases h1; done)
      exact PS.imp (ps_for c.po c.ck.calm (snd_i it k X W tg i c.ck h3) (snd_tg c.ck.tg t tg h2) (sndSs b k X W l c h4) hfs) snd_for
    · cases h
  | .brk, k, X, W, st, c, h => by
    unfold chkS at h
    split at h
    · exact PS.imp ps_break snd_brk
    · cases h
  | .cnt, k, X, W, st, c, h => by
    unfold chkS at h
    split at h
    · exact PS.imp ps_continue snd_cnt
    · cases h
  | .raise g, k, X, W, st, c, h => by
    unfold chkS at h
    split at h
    · simp only [Bool.and_eq_true, decide_eq_true_eq] at h
      exact snd_raise c.xs c.ck.calm c.ck.tk h.1.1 (c.ck.gl_ h.1.2) (okName_of h.2).1 k.T
    · cases h
  | .try1 g e, k, X, W, st, c, h => by
    unfold chkS at h
    split at h
    · rename_i v _ x _ _ _ _ _ _
      simp only [Bool.and_eq_true, decide_eq_true_eq] at h
      obtain ⟨⟨⟨h1, h2⟩, h3⟩, h4⟩ := h
      exact snd_try c.xs h1 (c.ck.gl_ h2) (okName_of h3).1 c.st c.fr c.ck.tk fun W' pn xe tk' =>
        (snd e k (X.tr pn xe) W' v ⟨c.ck.hN, c.ck.nd, c.ck.sc, c.ck.fl, c.ck.calm, c.ck.un, tk', ⟨c.ck.tab.gl, c.ck.tab.fn, c.ck.tab.md, c.ck.tab.bt⟩⟩ h4).pe
    · cases h
theorem sndSs : ∀ (s : Ss) (k : Ck) (X : Cx) (W : WX) (l : List Stmt), SkOk xs k X W → chkSs xs s k l = true → PSs X l (GS X W (exs k.T xs s))
  | .nil, k, X, W, l, c, h => by
    unfold chkSs at h
    split at h
    · exact PSs.imp pss_nil snd_nx
    · cases h
  | .cons s r, k, X, W, l, c, h => by
    unfold chkSs at h
    split at h
    · rename_i x t
      simp only [Bool.and_eq_true] at h
      refine PSs.imp (pss_cons (sndS s k X W x c h.1) (sndSs r k X W t c h.2)) fun D σ H ⟨ρ, Z, FP, H0, Z0, si, o⟩ => ?_
      exact ⟨ρ, Z, FP, H0, Z0, si, OutS.seq si o fun D σ H q => q⟩
    · cases h
  | .frz i r, k, X, W, l, c, h => by
    unfold chkSs at h
    refine PSs.imp (sndSs r k X W l c h) fun D σ H ⟨ρ, Z, FP, H0, Z0, si, o⟩ => ?_
    replace o : OutS X W D H0 Z0 H Z (match ρ[i]? with
      | some (some (_, d)) => exs k.T xs r (ρ.set i (some (false, d)))
      | _ => .st) := o
    generalize hi : ρ[i]? = sl at o
    match sl, hi, o with
    | none, _, o => exact o.elim
    | some none, _, o => exact o.elim
    | some (some (w, d)), hi, o =>
      obtain ⟨s2, z2⟩ := si.frz hi
      exact ⟨_, _, _, H0, Z0, s2, o.step .refl z2⟩
end
end
end Pi

set_option Elab.async false
set_option linter.all false
set_option maxRecDepth 100000
set_option maxHeartbeats 4000000
/-! Pi25: a def keeps its meaning. -/
namespace Pi
open PySem PySem.Spec PyProof.Rows L2
/-- what a table's names stand for, at level k -/
structure TabK (T : Tab) (P : Program) (w : World) (K : PySem.W.Frag) (mg : Str → Option Value) (base : Heap) (k : Nat) : Prop where
  gl : ∀ (g : Nat) (x : Str) (d : D), T.gl[g]? = some (x, d) → ∃ v u, mg x = some u ∧ RelV v u ∧ ∀ H Z, Rep ⟨K, P, w⟩ H Z d v
  fn : ∀ (f : Nat) (x : Str) (n : Nat) (F : List D → Res (Mo × D)), T.fn[f]? = some (x, n, F) → ∃ a fd ps, mg x = some (.ref a) ∧ PySem.W.keepIn K (.ref a) = true ∧ Binds K fd ps [] ∧ ps.length = n ∧ FnOk P w K mg base (L2.CX P w) k a fd ps (spP ⟨K, P, w⟩ mg n F)
  md : ∀ (g : Nat) (x : Str) (kvs : List (List Nat × D)), T.md[g]? = some (x, kvs) → ∃ a es n, mg x = some (.ref a) ∧ KDict K w a es n ∧ ∀ s, match slook kvs s with
    | some d => ∃ v u, PySem.W.nsIn K a (mkS s) = some (some u) ∧ RelV v u ∧ ∀ H Z, Rep ⟨K, P, w⟩ H Z d v
    | none => PySem.W.nsIn K a (mkS s) = some none
  bt : ∀ x ∈ bnames, mg x = none
/-- the classes -/
def XsK (xs : Xs) (K : PySem.W.Frag) (mg : Str → Option Value) : Prop := ∀ (g : Nat) (c : Str), xs.ex[g]? = some c → ∃ (C : Addr) (B newId initId : String) (bmB : List Value), mg c = some (.ref C) ∧ ExcBaseFacts B newId initId bmB ∧ PySem.W.excIn K C bmB newId = true ∧ PySem.W.keepIn K (.ref C) = true ∧
  PySem.W.subIn K (.ref C) (.type "BaseException") = some true ∧ PySem.W.typeIn K (.ref C) = some (.type "type") ∧ PySem.W.exmOne K (.ref C) (.ref C) = some true
section
variable {P : Program} {w : World} {K : PySem.W.Frag} {mg : Str → Option Value} {base : Heap}
theorem repL_start {K : Fr} {H : Hp} {Z : Addr → Prop} {ds : List D} {vs : List V} {N : List Str} (zd : ∀ a, Z a → H a ≠ none) (h : RepL K H Z ds vs) (hl : ds.length ≤ N.length) : EnvOk K H Z (ds.map (fun d => some (false, d)) ++ List.replicate (N.length - ds.length) none) (L2.start N vs) fun _ => [] := by
  have hv := h.length
  refine ⟨?_, fun i d q => ?_, fun i d q => ?_, fun i a q => by simp at q, zd, fun i j a q => by simp at q⟩
  · unfold L2.start
    simp [hv]
  · by_cases hi : i < ds.length
    · rw [List.getElem?_append_left (by simpa using hi), List.getElem?_map] at q
      rw [Option.map_eq_some_iff] at q
      obtain ⟨d', q1, q2⟩ := q
      cases q2
      obtain ⟨v, h1, h2⟩ := h.get q1
      refine ⟨v, ?_, h2⟩
      unfold L2.start
      rw [List.getElem?_append_left (by simpa [hv] using hi), List.getElem?_map, h1]
      rfl
    · rw [List.getElem?_append_right (by simpa using hi), List.getElem?_replicate] at q
      split at q <;> cases q
  · by_cases hi : i < ds.length
    · rw [List.getElem?_append_left (by simpa using hi), List.getElem?_map, Option.map_eq_some_iff] at q
      obtain ⟨d', q1, q2⟩ := q
      cases q2
    · rw [List.getElem?_append_right (by simpa using hi), List.getElem?_replicate] at q
      split at q <;> cases q
theorem runF_use {T : Tab} {xs : Xs} {X : Cx} {N : List Str} {b : Ss} {ds : List D} {Z : Addr → Prop} {vs : List V} {H : Hp} {Q : VK} {E : XK} (hl : ds.length ≤ N.length) (zd : ∀ a, Z a → H a ≠ none) (rl : RepL X.fr H Z ds vs)
    (hm : match runF T xs N.length b ds with
      | .ok (m, d) => m ≠ .bo ∧ ∀ v H' Z', Ext H Z H' Z' → ResOk X.fr H H' Z' (fun _ => []) m d v → Q v H'
      | .er c _ => ∀ H' Z', Ext H Z H' Z' → E ((X.mg c).getD .none) none H'
      | .st => False) : GS X (fun cls d _ H => E cls d H) (exs T xs b) { nx := fun _ H' => Q .non H', rt := Q } (L2.start N vs) H := by
  refine ⟨_, Z, fun _ => [], H, Z, ⟨repL_start zd rl hl, .refl, fun i a q => by simp at q⟩, ?_⟩
  unfold runF at hm
  cases hr : exs T xs b (ds.map (fun d => some (false, d)) ++ List.replicate (N.length - ds.length) none) with
  | st => rw [hr] at hm; exact hm
  | er c p => rw [hr] at hm; exact fun _ H' Z' x => hm H' Z' x
  | ok fl =>
    rw [hr] at hm
    cases fl with
    | nx ρ => exact fun H' Z' σ' FP' s _ _ => hm.2 .non H' Z' s.ext (by show Rep _ _ _ _ _; simp only [Rep])
    | bk ρ => exact hm.elim
    | ct ρ => exact hm.elim
    | rt m d => exact hm
/-- THE RULE for a def -/
theorem def_ok {T : Tab} {xs : Xs} {x qual : Str} {params : Arguments} {body : List Stmt} {scope : Scope} {f : Addr} {fd : FuncData} {N ps : List Str} {k n : Nat} {b : Ss} (F : FunD K x qual params body scope [] [] f fd) (S : FnScope N ps scope) (hn : ps.length = n) (tab : TabK T P w K mg base k) (hx : XsK xs K mg)
    (h : chkSs xs b ⟨T, N, scope, true⟩ body = true) : FnOk P w K mg base (L2.CX P w) (k + 1) f fd ps (spP ⟨K, P, w⟩ mg n (runF T xs N.length b)) := by
  have hpl : ps.length ≤ N.length := by have := congrArg List.length S.pre; rw [List.length_take] at this; omega
  refine F.ok S (fun vs H Q E ⟨ds, Z, h1, _, h3, _⟩ => by rw [h3.length, h1, hn]) fun cdv A outer s H vs Q E hr hsp => ?_
  obtain ⟨ds, Z, h1, zd, rl, hm⟩ := hsp
  let X := cxOf (L2.CX P w) P w K mg base N qual scope f cdv A outer s H E
  have tk : Takes X (fun cls d _ H => E cls d H) := takes_of (X := X) rfl rfl rfl rfl
  have sk : SkOk xs ⟨T, N, scope, true⟩ X (fun cls d _ H => E cls d H) := {
    ck := {
      hN := rfl
      nd := S.nd
      sc := rfl
      fl := fun _ _ => rfl
      calm := rfl
      un := by have := hr.un; show (A.deeper _).units + 65 < cLine; omega
      tk := tk
      tab := ⟨tab.gl, fun f x n F hf => by
        obtain ⟨a, fd, ps, q1, q2, q3, q4, q5⟩ := tab.fn f x n F hf
        exact ⟨k, a, fd, ps, q1, q2, q3, hr, q4, q5⟩, tab.md, tab.bt⟩ }
    po := passes_of (X := X) rfl
    st := rfl
    fr := rfl
    xs := fun g c hg => by
      obtain ⟨C, B, newId, initId, bmB, q1, q2, q3, q4, q5, q6, q7⟩ := hx g c hg
      exact ⟨C, B, newId, initId, bmB, q1, q2, q3, q4, raises_own q5 q6, q7⟩
    kind := S.kind
    fn := fun _ => rfl }
  refine ⟨_, sndSs b ⟨T, N, scope, true⟩ X _ body sk h, ?_⟩
  exact runF_use (X := X) (by rw [h1, ← hn]; exact hpl) zd rl hm
end
end Pi

set_option Elab.async false
set_option linter.all false
set_option maxRecDepth 100000
set_option maxHeartbeats 4000000
/-! PiHead: what the opened module holds, by one Hook. -/
namespace Pi
open PySem PySem.Spec PyProof.Rows L2
structure Hd where
  gl : List (Str × D)
  md : List (Str × List (List Nat × D))
  ex : List Str
  fn : List He.DefD
def glFa : Str × D → He.Fa
  | (x, .int i) => .int x i
  | (x, .str s) => .str x (mkS s)
  | (x, _) => .free x
def okGl : D → Bool
  | .int _ => true
  | .str _ => true
  | _ => false
def mdV : D → He.Dv
  | .int i => .int i
  | .str s => .str (mkS s)
  | .bl b => .bl b
  | _ => .non
def Hd.fa (h : Hd) : List He.Fa := bnames.map .free ++ (h.ex.map .glo ++ (h.ex.map .exc ++ (h.ex.map (fun x => .exm x x true) ++ (h.gl.map glFa ++ (h.md.map (fun p => .glo p.1) ++ h.fn.map fun d => .glo d.name)))))
def Hd.ts (h : Hd) : List He.Tab := h.md.map fun p => (fun K => He.ga K p.1, p.2.map fun q => mkS q.1)
def Hd.mdB (h : Hd) (K : PySem.W.Frag) : Bool := h.md.all fun p => He.valsB K (He.ga K p.1) (p.2.map fun q => (mkS q.1, mdV q.2))
abbrev AlM := He.AlT × Bool
def Hd.obs (h : Hd) (K : PySem.W.Frag) : AlM := (He.obsT h.fa h.fn h.ts K, h.mdB K)
def Hd.val (h : Hd) (w : World) : AlM := (He.valT h.fn h.ts w, true)
def Hd.obsG (h : Hd) (n : Nat) (g : Addr → Option Obj) : AlM := h.obs (He.frG g (He.asD g n))
def Hd.says (h : Hd) (w : World) (K : PySem.W.Frag) : Prop := h.obs K = h.val w
def Hd.hook (h : Hd) (n : Nat) : PySem.W.Hook where
  α := AlM
  obs := fun s => h.obsG n s.heap.get?
  val := fun w => h.val w
  says := fun w hp => ∃ K : PySem.W.Frag, K.In hp ∧ h.says w K
  of := fun _ _ e => ⟨_, He.frG_in, e⟩
  keeps := fun _ _ _ ⟨K, hK, c⟩ k => ⟨K, PySem.W.Frag.In.keeps hK k, c⟩
theorem Hd.obsG_eq {h : Hd} {n : Nat} {g : Addr → Option Obj} {s : Shared} (e : ∀ a, g a = s.heap.get? a) : h.obsG n g = (h.hook n).obs s := by
  have e : g = s.heap.get? := funext e
  rw [e] <;> rfl
def Hd.ob (h : Hd) (n : Nat) (s : PySem.W.SharedT) : AlM := h.obsG n (HandSHeadRun.getT s)
theorem Hd.ob_eq (h : Hd) (n : Nat) (s : PySem.W.SharedT) : h.ob n s = (h.hook n).obs s.abs := Hd.obsG_eq (HandSHeadRun.getT_eq s)
section
variable {h : Hd} {w : World} {K : PySem.W.Frag} {hp : Heap} {mg : Str → Option Value} {P : Program}
theorem Hd.says.t (c : h.says w K) : He.SaysT h.fa h.fn h.ts w K := congrArg (fun z : AlM => z.1) c
theorem Hd.says.fact (c : h.says w K) {f : He.Fa} (hf : f ∈ h.fa) : f.ok K = true := by
  obtain ⟨i, hi⟩ := List.getElem?_of_mem hf
  exact c.t.d.fact i hi
theorem Hd.says.gl (c : h.says w K) (X : K.In hp) (G : hp.Ns mainGlobals mg) (hg : h.gl.all (fun p => okGl p.2) = true) (g : Nat) (x : Str) (d : D) (e : h.gl[g]? = some (x, d)) : ∃ v u, mg x = some u ∧ RelV v u ∧ ∀ H Z, Rep ⟨K, P, w⟩ H Z d v := by
  have hm := List.mem_of_getElem? e
  have h1 : glFa (x, d) ∈ h.fa := by
    unfold Hd.fa
    simp only [List.mem_append]
    exact .inr (.inr (.inr (.inr (.inl (List.mem_map_of_mem hm)))))
  have h2 := List.all_eq_true.mp hg _ hm
  have h3 := c.fact h1
  cases d <;> first | (cases h2; done) | skip
  · obtain ⟨t, ht⟩ := He.int_ok X G h3
    exact ⟨.int _, _, ht, ⟨t, rfl⟩, fun H Z => by simp only [Rep]⟩
  · obtain ⟨t, ht⟩ := He.str_ok X G h3
    exact ⟨.str _, _, ht, ⟨t, rfl⟩, fun H Z => by simp only [Rep]⟩
theorem Hd.says.bt (c : h.says w K) (X : K.In hp) (G : hp.Ns mainGlobals mg) (x : Str) (hx : x ∈ bnames) : mg x = none :=
  He.free_ok X G (c.fact (f := .free x) (by unfold Hd.fa; simp only [List.mem_append]; exact .inl (List.mem_map_of_mem hx)))
theorem Hd.says.ex (c : h.says w K) (X : K.In hp) (G : hp.Ns mainGlobals mg) {xs : Xs} (e : xs.ex = h.ex) : XsK xs K mg := by
  intro g x hg
  rw [e] at hg
  have hm := List.mem_of_getElem? hg
  have h1 : He.Fa.glo x ∈ h.fa := by unfold Hd.fa; simp only [List.mem_append]; exact .inr (.inl (List.mem_map_of_mem hm))
  have h2 : He.Fa.exc x ∈ h.fa := by unfold Hd.fa; simp only [List.mem_append]; exact .inr (.inr (.inl (List.mem_map_of_mem hm)))
  have h3 : He.Fa.exm x x true ∈ h.fa := by unfold Hd.fa; simp only [List.mem_append]; exact .inr (.inr (.inr (.inl (List.mem_map_of_mem (f := fun x => He.Fa.exm x x true) hm))))
  obtain ⟨q1, q2, q3, q4⟩ := He.exc_ok (c.fact h2)
  exact ⟨He.ga K x, "ValueError", _, _, _, He.glo_ok X G (c.fact h1), PySem.F.excBase_ValueError, q1, q2, q3, q4, He.exm_ok (c.fact h3)⟩
theorem Hd.says.fn (c : h.says w K) (X : K.In hp) (G : hp.Ns mainGlobals mg) (i : Nat) {d : He.DefD} (e : h.fn[i]? = some d := by rfl) : mg d.name = some (.ref (He.ga K d.name)) ∧ ∃ fd, FunD K d.name d.qual d.params d.body d.scope (d.dvs K) (d.kws K) (He.fAd K d.at_) fd :=
  ⟨He.glo_ok X G (c.fact (f := .glo d.name) (by unfold Hd.fa; simp only [List.mem_append]; exact .inr (.inr (.inr (.inr (.inr (.inr (List.mem_map_of_mem (f := fun d : He.DefD => He.Fa.glo d.name) (List.mem_of_getElem? e))))))))), c.t.d.def_ i e⟩
theorem slook_mem : ∀ {l : List (List Nat × D)} {s : List Nat} {d : D}, slook l s = some d → (s, d) ∈ l
  | p :: r, s, d, e => by
    unfold slook at e
    split at e
    · rename_i hp
      cases e
      rw [← hp]
      exact List.mem_cons_self
    · exact List.mem_cons_of_mem _ (slook_mem e)
theorem slook_none : ∀ {l : List (List Nat × D)} {s : List Nat}, slook l s = none → ∀ p ∈ l, p.1 ≠ s
  | q :: r, s, e, p, hp => by
    unfold slook at e
    split at e
    · cases e
    · rename_i hq
      rcases List.mem_cons.mp hp with h | h
      · rw [h]; exact hq
      · exact slook_none e p h
theorem keys_find {P : Params} {x : Str} : ∀ {l : List DictEntry} {ks : List Str}, l.map He.keyOf = He.keysIn P ks → x ∉ ks → l.find? (·.key.isStr x) = none ∧ l.any (·.refKey) = false
  | [], _, _, _ => ⟨rfl, rfl⟩
  | e :: r, [], h, _ => by cases h
  | e :: r, k :: ks, h, hx => by
    have h1 : He.keyOf e :: r.map He.keyOf = some (k, PyData.keyHash P k) :: He.keysIn P ks := h
    injection h1 with h2 h3
    obtain ⟨i1, i2⟩ := keys_find h3 (fun z => hx (List.mem_cons_of_mem _ z))
    unfold He.keyOf at h2
    split at h2
    · rename_i y t q
      have h4 := Option.some.inj h2
      obtain ⟨h5, h6⟩ := Prod.mk.inj h4
      have hne : (e.key.isStr x) = false := by
        rw [q]
        show (y == x) = false
        rw [beq_eq_false_iff_ne]
        intro z
        exact hx (by rw [← z, h5]; exact List.mem_cons_self)
      have hrf : e.refKey = false := by unfold DictEntry.refKey; rw [q]
      constructor
      · rw [List.find?_cons_of_neg (by rw [hne]; simp)]; exact i1
      · rw [List.any_cons, hrf, i2]; rfl
    · cases h2
theorem nsIn_none {P : Params} {a : Addr} {ks : List Str} {x : Str} (h : He.dicW K a = some (He.keysIn P ks)) (hx : x ∉ ks) : PySem.W.nsIn K a x = some none := by
  unfold He.dicW at h
  unfold PySem.W.nsIn
  cases q : K.lookup a with
  | none => rw [q] at h; cases h
  | some o =>
    obtain ⟨oc, od, dt, osl⟩ := o
    rw [q] at h
    cases oc <;> cases od <;> cases dt <;> first | (cases h; done) | skip
    rename_i c es n
    simp only at h ⊢
    split at h
    · obtain ⟨h1, h2⟩ := keys_find (Option.some.inj h) hx
      rw [h1]
      simp only [h2]
      rfl
    · cases h
theorem Hd.says.md (c : h.says w K) (X : K.In hp) (G : hp.Ns mainGlobals mg) (ho : h.md.all (fun p => p.2.all fun q => okGl q.2) = true) (g : Nat) (x : Str) (kvs : List (List Nat × D)) (e : h.md[g]? = some (x, kvs)) : ∃ a es n, mg x = some (.ref a) ∧ KDict K w a es n ∧ ∀ s, match slook kvs s with
    | some d => ∃ v u, PySem.W.nsIn K a (mkS s) = some (some u) ∧ RelV v u ∧ ∀ H Z, Rep ⟨K, P, w⟩ H Z d v
    | none => PySem.W.nsIn K a (mkS s) = some none := by
  have hm := List.mem_of_getElem? e
  have h1 : He.Fa.glo x ∈ h.fa := by
    unfold Hd.fa
    simp only [List.mem_append]
    exact .inr (.inr (.inr (.inr (.inr (.inl (List.mem_map_of_mem (f := fun p : Str × List (List Nat × D) => He.Fa.glo p.1) hm))))))
  have ht : h.ts[g]? = some (fun K => He.ga K x, kvs.map fun q => mkS q.1) := by
    unfold Hd.ts
    rw [List.getElem?_map, e]
    rfl
  obtain ⟨es, n, kd⟩ := c.t.tab g ht
  have hv : He.valsB K (He.ga K x) (kvs.map fun q => (mkS q.1, mdV q.2)) = true := List.all_eq_true.mp (show h.mdB K = true from congrArg (fun z : AlM => z.2) c) _ hm
  have hw : He.dicW K (He.ga K x) = some (He.keysIn w.params (kvs.map fun q => mkS q.1)) := by
    have e1 : h.ts.map (fun t => He.dicW K (t.1 K)) = h.ts.map fun t => some (He.keysIn w.params t.2) := congrArg (fun z : He.AlT => z.2) c.t
    have e2 : (h.ts.map fun t => He.dicW K (t.1 K))[g]? = (h.ts.map fun t => some (He.keysIn w.params t.2))[g]? := by rw [e1]
    rw [List.getElem?_map, List.getElem?_map, ht] at e2
    exact Option.some.inj e2
  refine ⟨He.ga K x, es, n, He.glo_ok X G (c.fact h1), kd, fun s => ?_⟩
  cases hs : slook kvs s with
  | some d =>
    have hd := slook_mem hs
    obtain ⟨u, hu, ru⟩ := He.valsB_ok hv (List.mem_map_of_mem (f := fun q : List Nat × D => (mkS q.1, mdV q.2)) hd)
    have hok : okGl d = true := List.all_eq_true.mp (List.all_eq_true.mp ho _ hm) _ hd
    refine ⟨_, u, hu, ru, fun H Z => ?_⟩
    cases d <;> first | (cases hok; done) | skip
    · show Rep _ _ _ _ (V.int _); simp only [Rep]
    · show Rep _ _ _ _ (V.str _); simp only [Rep]
  | none =>
    refine nsIn_none hw fun z => ?_
    obtain ⟨q, hq, eq⟩ := List.mem_map.mp z
    exact slook_none hs q hq (mkS_inj eq)
/-- what all defs of a table want, but the defs themselves -/
theorem Hd.says.tab (c : h.says w K) (X : K.In hp) (G : hp.Ns mainGlobals mg) (hg : h.gl.all (fun p => okGl p.2) = true) (ho : h.md.all (fun p => p.2.all fun q => okGl q.2) = true) {T : Tab} (e1 : T.gl = h.gl) (e2 : T.md = h.md) {base : Heap} {k : Nat}
    (hf : ∀ (f : Nat) (x : Str) (n : Nat) (F : List D → Res (Mo × D)), T.fn[f]? = some (x, n, F) → ∃ a fd ps, mg x = some (.ref a) ∧ PySem.W.keepIn K (.ref a) = true ∧ Binds K fd ps [] ∧ ps.length = n ∧ FnOk P w K mg base (L2.CX P w) k a fd ps (spP ⟨K, P, w⟩ mg n F)) : TabK T P w K mg base k :=
  ⟨fun g x d e => c.gl X G hg g x d (by rw [← e1]; exact e), hf, fun g x kvs e => c.md X G ho g x kvs (by rw [← e2]; exact e), fun x hx => c.bt X G x hx⟩
/-- a def that keeps F, by name -/
def DefK (P : Program) (w : World) (K : PySem.W.Frag) (mg : Str → Option Value) (base : Heap) (k : Nat) (x : Str) (n : Nat) (F : List D → Res (Mo × D)) : Prop :=
  ∃ a fd ps, mg x = some (.ref a) ∧ PySem.W.keepIn K (.ref a) = true ∧ Binds K fd ps [] ∧ ps.length = n ∧ FnOk P w K mg base (L2.CX P w) k a fd ps (spP ⟨K, P, w⟩ mg n F)
theorem DefK.mono {base : Heap} {j k : Nat} {x : Str} {n : Nat} {F : List D → Res (Mo × D)} (d : DefK P w K mg base j x n F) (hk : j ≤ k) : DefK P w K mg base k x n F :=
  let ⟨a, fd, ps, h1, h2, h3, h4, h5⟩ := d
  ⟨a, fd, ps, h1, h2, h3, h4, h5.mono hk⟩
def DefKs (P : Program) (w : World) (K : PySem.W.Frag) (mg : Str → Option Value) (base : Heap) (k : Nat) : List (Str × Nat × (List D → Res (Mo × D))) → Prop
  | [] => True
  | p :: r => DefK P w K mg base k p.1 p.2.1 p.2.2 ∧ DefKs P w K mg base k r
theorem DefKs.get {base : Heap} {k : Nat} : ∀ {l : List (Str × Nat × (List D → Res (Mo × D)))}, DefKs P w K mg base k l → ∀ (f : Nat) (x : Str) (n : Nat) (F : List D → Res (Mo × D)), l[f]? = some (x, n, F) → DefK P w K mg base k x n F
  | p :: r, h, 0, x, n, F, e => by
    simp only [List.getElem?_cons_zero, Option.some.injEq] at e
    subst e
    exact h.1
  | p :: r, h, f + 1, x, n, F, e => DefKs.get h.2 f x n F (by simpa using e)
/-- a def of no default, from its datum -/
theorem Hd.says.def_ok (c : h.says w K) (X : K.In hp) (G : hp.Ns mainGlobals mg) (hg : h.gl.all (fun p => okGl p.2) = true) (ho : h.md.all (fun p => p.2.all fun q => okGl q.2) = true) (i : Nat) {x : Str} {st : Stmt} {N ps : List Str} {T : Tab} {xs : Xs} {b : Ss} {base : Heap} {k n : Nat}
    (e : h.fn[i]? = some ⟨(x, none), x, x, defArgs st, defBody st, defScope st, [], []⟩) (S : FnScope N ps (defScope st)) (e1 : T.gl = h.gl) (e2 : T.md = h.md) (e3 : xs.ex = h.ex) (hn : ps.length = n) (ck : chkSs xs b ⟨T, N, defScope st, true⟩ (defBody st) = true)
    (hb : ∀ fd, FunD K x x (defArgs st) (defBody st) (defScope st) [] [] (He.ga K x) fd → Binds K fd ps [])
    (hf : DefKs P w K mg base k T.fn) : DefK P w K mg base (k + 1) x n (runF T xs N.length b) := by
  obtain ⟨m, fd, F⟩ := c.fn X G i e
  have F : FunD K x x (defArgs st) (defBody st) (defScope st) [] [] (He.ga K x) fd := F
  exact ⟨He.ga K x, fd, ps, m, F.kp, hb fd F, hn, Pi.def_ok F S hn (c.tab X G hg ho e1 e2 fun f y n F' q => hf.get f y n F' q) (c.ex X G e3) ck⟩
/-- .. at a function object that is given -/
theorem Hd.says.fn_ok (c : h.says w K) (X : K.In hp) (G : hp.Ns mainGlobals mg) (hg : h.gl.all (fun p => okGl p.2) = true) (ho : h.md.all (fun p => p.2.all fun q => okGl q.2) = true) {x : Str} {st : Stmt} {N ps : List Str} {T : Tab} {xs : Xs} {b : Ss} {base : Heap} {k n : Nat}
    (S : FnScope N ps (defScope st)) (e1 : T.gl = h.gl) (e2 : T.md = h.md) (e3 : xs.ex = h.ex) (hn : ps.length = n) (ck : chkSs xs b ⟨T, N, defScope st, true⟩ (defBody st) = true)
    (hf : DefKs P w K mg base k T.fn) (fd : FuncData) (F : FunD K x x (defArgs st) (defBody st) (defScope st) [] [] (He.ga K x) fd) : FnOk P w K mg base (L2.CX P w) (k + 1) (He.ga K x) fd ps (spP ⟨K, P, w⟩ mg n (runF T xs N.length b)) :=
  Pi.def_ok F S hn (c.tab X G hg ho e1 e2 fun f y n F' q => hf.get f y n F' q) (c.ex X G e3) ck
/-- a def that is told nothing of -/
theorem Hd.says.def_st (c : h.says w K) (X : K.In hp) (G : hp.Ns mainGlobals mg) (i : Nat) {x : Str} {st : Stmt} {N ps : List Str} {base : Heap} {k n : Nat}
    (e : h.fn[i]? = some ⟨(x, none), x, x, defArgs st, defBody st, defScope st, [], []⟩) (S : FnScope N ps (defScope st)) (hn : ps.length = n)
    (hb : ∀ fd, FunD K x x (defArgs st) (defBody st) (defScope st) [] [] (He.ga K x) fd → Binds K fd ps []) : DefK P w K mg base k x n (fun _ => .st) := by
  obtain ⟨m, fd, F⟩ := c.fn X G i e
  have F : FunD K x x (defArgs st) (defBody st) (defScope st) [] [] (He.ga K x) fd := F
  exact ⟨He.ga K x, fd, ps, m, F.kp, hb fd F, hn, ⟨fun vs H Q E ⟨_, _, _, _, _, z⟩ => z.elim, fun A outer s H args us vs Q E _ _ _ _ ⟨_, _, _, _, _, z⟩ => z.elim⟩⟩
/-- the law's promise is what the end wants -/
theorem sp_law {F : List D → Res (Mo × D)} (ht : ∀ ns : List Int, ns.length ≤ 63 → ∃ m, m ≠ .bo ∧ F [.scr ns] = .ok (m, .bl true)) (H : Hp) (a : Addr) (ns : List Int) (hl : ns.length ≤ 63) (hS : SqL K H a (ns.map V.int)) :
    spP ⟨K, P, w⟩ mg 1 F [.ref a] H (fun v _ => v = .bl true) fun _ _ _ => False := by
  obtain ⟨m, hm, e⟩ := ht ns hl
  have fin : ∀ Z : Addr → Prop, match F [.scr ns] with
    | .ok (m, d) => m ≠ .bo ∧ ∀ v H' Z', Ext H Z H' Z' → ResOk ⟨K, P, w⟩ H H' Z' (fun _ => []) m d v → v = .bl true
    | .er c _ => ∀ H' Z', Ext H Z H' Z' → False
    | .st => False := fun Z => by
    rw [e]
    refine ⟨hm, fun v H' Z' x r => ?_⟩
    have := r.read
    simp only [Rep] at this
    exact this
  rcases hS with q | q
  · refine ⟨[.scr ns], fun b => b = a, rfl, fun b hb => ?_, ?_, fin _⟩
    · subst hb
      rcases q with q | ⟨o, q⟩ <;> (rw [q]; simp)
    · simp only [RepL, Rep]
      exact ⟨.ref a, [], rfl, ⟨a, rfl, .inl q, .inl rfl⟩, rfl⟩
  · refine ⟨[.scr ns], fun _ => False, rfl, fun b hb => hb.elim, ?_, fin _⟩
    simp only [RepL, Rep]
    exact ⟨.ref a, [], rfl, ⟨a, rfl, .inr q, .inr fun _ => .inr q⟩, rfl⟩
end
/-- THE END: a def by name at every world, its meaning true at every script -/
theorem law_end {l : PySem.W.OpenLaw} {h : Hd} {N k j : Nat} {q : Program} {loose : List Str} {XP : (Str → Option Value) → Heap → Prop} {d : DefRec} {x y : Str} {fdef : Stmt} {F : List D → Res (Mo × D)}
    (hn : l.most = some 63) (hdf : d.params.defaults = []) (hr : Room k callerA) (hy : d.name = y)
    (e : h.fn[j]? = some ⟨(y, none), y, y, defArgs fdef, defBody fdef, defScope fdef, [], []⟩)
    (hb : ∀ (K : PySem.W.Frag) (fd : FuncData), FunD K y y (defArgs fdef) (defBody fdef) (defScope fdef) [] [] (He.ga K y) fd → ∀ (s : Shared) (v : Value), BindsTo s fd ⟨[v], []⟩ [(x, v)])
    (hk : ∀ (w : World) (K : PySem.W.Frag) (hp : Heap) (mg : Str → Option Value) (base : Heap), h.says w K → K.In hp → hp.Ns mainGlobals mg → ∀ fd, FunD K y y (defArgs fdef) (defBody fdef) (defScope fdef) [] [] (He.ga K y) fd →
      FnOk l.prog w K mg base (L2.CX l.prog w) k (He.ga K y) fd [x] (spP ⟨K, l.prog, w⟩ mg 1 F))
    (ht : ∀ ns : List Int, ns.length ≤ 63 → ∃ m, m ≠ .bo ∧ F [.scr ns] = .ok (m, .bl true)) :
    PySem.W.WalkO q loose XP (h.hook N).says l.row.toRowW d [] (fun f vs => PySem.call f vs) := by
  refine Att.attach_call hn hdf fun w s₀ s₁ mg mb fa o pm cd doc a vs ns G Y ho hd hcd hmg hobj hints hlen hg => ?_
  obtain ⟨K, KX, c⟩ := Y
  obtain ⟨hm, fd, Fd⟩ := c.fn KX G.T.g j e
  have Fd : FunD K y y (defArgs fdef) (defBody fdef) (defScope fdef) [] [] (He.ga K y) fd := Fd
  have hmg2 : mg y = some (.ref fa) := by rw [← hy]; exact hmg
  have ea : fa = He.ga K y := by
    have hm : mg y = some (.ref (He.ga K y)) := hm
    rw [hm] at hmg2
    cases hmg2
    rfl
  subst ea
  exact law_call KX G.T.g G.T.b G.T.builtins G.T.nolimit hg hobj hints (Nat.le_trans hlen (by decide)) hr (fun base _ _ => hk w K _ mg base c KX G.T.g fd Fd) (hb K fd Fd) (fun H hO hS => sp_law ht H a ns hlen hS) fun H e s' ⟨_, _, _, _, _, _, _, _, _, _, _, _, z⟩ => z
end Pi

set_option Elab.async false
set_option linter.all false
set_option maxRecDepth 100000
set_option maxHeartbeats 0
namespace K77
open PySem PySem.Spec PyProof.Rows L2 Pi
abbrev R : PySem.W.OpenRow := PySem.W.OpenLaw.row PySem.Challenge.rw_ledgertongue_k77_whole_rules_at_the_ends
def top (i : Nat) : Stmt := R.prog.main.body.getD i (.Pass ⟨0, 0, 0, 0⟩)

/-! printed by gen.py: the terms of the defs -/
def glC : List (Str × D) := [("MOST_NAMES", (.int 4)), ("MOST_SIGNS", (.int 8)), ("MOST_CAPITALS", (.int 3)), ("MOST_WORDS", (.int 40)), ("MOST_DAY", (.int 100000)), ("MOST_AMOUNT", (.int 1000000000000000)), ("LETTERS", (.str [97,98,99,100,101,102,103,104,105,106,107,108,109,110,111,112,113,114,115,116,117,118,119,120,121,122])), ("CAPITALS", (.str [65,66,67,68,69,70,71,72,73,74,75,76,77,78,79,80,81,82,83,84,85,86,87,88,89,90])), ("FIGURES", (.str [48,49,50,51,52,53,54,55,56,57])), ("MOST_RULES", (.int 8)), ("MOST_CONDITIONS", (.int 6)), ("MOST_SAMPLES", (.int 5000)), ("FORM_WORD", (.str [102,111,114,109]))]
def mdC : List (Str × List (List Nat × D)) := [("SORTS", [([117,110,100,101,114], (.str [97,99,99,111,117,110,116])), ([110,111,116], (.str [97,99,99,111,117,110,116])), ([102,114,111,109], (.str [100,97,121])), ([116,111], (.str [100,97,121])), ([105,110], (.str [99,117,114,114,101,110,99,121])), ([97,98,111,118,101], (.str [97,109,111,117,110,116])), ([98,101,108,111,119], (.str [97,109,111,117,110,116])), ([119,111,114,100], (.str [119,111,114,100]))])]
def xsC : Xs := ⟨["BookError", "TooMany", "BadRules", "BadBankRow"], []⟩
def Nf_is_of : List Str := ["value", "signs", "most", "sign"]
def tf_is_of : Tab := ⟨glC, [], mdC⟩
def bf_is_of : Ss := (.cons (.ret (.and (.isi (.var 0) .str) (.and (.chn (.cm .le) (.cm .le) (.con (.int 1)) (.bi .len (.cons (.var 0) .nil)) (.var 2)) (.bi .all (.cons (.lc (.op (.inn false) (.var 3) (.var 1)) [3] (.nm 3) (.of (.var 0)) .no) .nil))))) .nil)
def f_is_of : List D → Res (Mo × D) := runF tf_is_of xsC 4 bf_is_of
def Nfis_account : List Str := ["value", "names", "name"]
def tfis_account : Tab := ⟨glC, [("_is_of", 3, f_is_of)], mdC⟩
def bfis_account : Ss := (.cons (.ite (.not (.isi (.var 0) .str)) (.cons (.ret (.con (.bl false))) .nil) .nil) (.cons (.set 1 false (.mt .split (.var 0) (.con (.str [58])))) (.cons (.ret (.and (.op (.cm .le) (.bi .len (.cons (.var 1) .nil)) (.glob 0)) (.bi .all (.cons (.lc (.call 0 (.cons (.var 2) (.cons (.glob 6) (.cons (.glob 1) .nil)))) [2] (.nm 2) (.of (.var 1)) .no) .nil)))) .nil)))
def fis_account : List D → Res (Mo × D) := runF tfis_account xsC 3 bfis_account
def Nfis_currency : List Str := ["value"]
def tfis_currency : Tab := ⟨glC, [("_is_of", 3, f_is_of)], mdC⟩
def bfis_currency : Ss := (.cons (.ret (.call 0 (.cons (.var 0) (.cons (.glob 7) (.cons (.glob 2) .nil))))) .nil)
def fis_currency : List D → Res (Mo × D) := runF tfis_currency xsC 1 bfis_currency
def Nfis_under : List Str := ["account", "other"]
def tfis_under : Tab := ⟨glC, [], mdC⟩
def bfis_under : Ss := (.cons (.ret (.or (.op .eq (.var 0) (.var 1)) (.op .eq (.sl (.var 0) .no (.so (.op .add (.bi .len (.cons (.var 1) .nil)) (.con (.int 1))))) (.op .add (.var 1) (.con (.str [58])))))) .nil)
def fis_under : List D → Res (Mo × D) := runF tfis_under xsC 2 bfis_under
def Nfis_whole : List Str := ["value", "least", "most"]
def tfis_whole : Tab := ⟨glC, [], mdC⟩
def bfis_whole : Ss := (.cons (.ret (.and (.isi (.var 0) .int) (.and (.not (.isi (.var 0) .bool)) (.chn (.cm .le) (.cm .le) (.var 1) (.var 0) (.var 2))))) .nil)
def fis_whole : List D → Res (Mo × D) := runF tfis_whole xsC 3 bfis_whole
def Nfis_amount : List Str := ["value"]
def tfis_amount : Tab := ⟨glC, [("is_whole", 3, fis_whole)], mdC⟩
def bfis_amount : Ss := (.cons (.ret (.call 0 (.cons (.var 0) (.cons (.op .sub (.con (.int 0)) (.glob 5)) (.cons (.glob 5) .nil))))) .nil)
def fis_amount : List D → Res (Mo × D) := runF tfis_amount xsC 1 bfis_amount
def Nfis_day : List Str := ["value"]
def tfis_day : Tab := ⟨glC, [("is_whole", 3, fis_whole)], mdC⟩
def bfis_day : Ss := (.cons (.ret (.call 0 (.cons (.var 0) (.cons (.con (.int 0)) (.cons (.glob 4) .nil))))) .nil)
def fis_day : List D → Res (Mo × D) := runF tfis_day xsC 1 bfis_day
def Nfare_words : List Str := ["value", "word"]
def tfare_words : Tab := ⟨glC, [("_is_of", 3, f_is_of)], mdC⟩
def bfare_words : Ss := (.cons (.ite (.or (.not (.isi (.var 0) .str)) (.op (.cm .gt) (.bi .len (.cons (.var 0) .nil)) (.glob 3))) (.cons (.ret (.con (.bl false))) .nil) .nil) (.cons (.ite (.op .eq (.var 0) (.con (.str []))) (.cons (.ret (.con (.bl true))) .nil) .nil) (.cons (.ret (.bi .all (.cons (.lc (.call 0 (.cons (.var 1) (.cons (.op .add (.glob 6) (.glob 8)) (.cons (.glob 3) .nil)))) [1] (.nm 1) (.of (.mt .split (.var 0) (.con (.str [32])))) .no) .nil))) .nil)))
def fare_words : List D → Res (Mo × D) := runF tfare_words xsC 2 bfare_words
def Nf_is_told : List Str := ["kind", "value", "sign"]
def tf_is_told : Tab := ⟨glC, [("is_account", 1, fis_account), ("is_day", 1, fis_day), ("is_currency", 1, fis_currency), ("is_amount", 1, fis_amount)], mdC⟩
def bf_is_told : Ss := (.cons (.ite (.op .eq (.var 0) (.con (.str [97,99,99,111,117,110,116]))) (.cons (.ret (.call 0 (.cons (.var 1) .nil))) .nil) .nil) (.cons (.ite (.op .eq (.var 0) (.con (.str [100,97,121]))) (.cons (.ret (.call 1 (.cons (.var 1) .nil))) .nil) .nil) (.cons (.ite (.op .eq (.var 0) (.con (.str [99,117,114,114,101,110,99,121]))) (.cons (.ret (.call 2 (.cons (.var 1) .nil))) .nil) .nil) (.cons (.ite (.op .eq (.var 0) (.con (.str [97,109,111,117,110,116]))) (.cons (.ret (.call 3 (.cons (.var 1) .nil))) .nil) .nil) (.cons (.ite (.or (.not (.isi (.var 1) .str)) (.not (.chn (.cm .le) (.cm .le) (.con (.int 1)) (.bi .len (.cons (.var 1) .nil)) (.glob 3)))) (.cons (.ret (.con (.bl false))) .nil) .nil) (.cons (.ret (.bi .all (.cons (.lc (.op (.inn false) (.var 2) (.op .add (.glob 6) (.glob 8))) [2] (.nm 2) (.of (.var 1)) .no) .nil))) .nil))))))
def f_is_told : List D → Res (Mo × D) := runF tf_is_told xsC 3 bf_is_told
def Nfis_condition : List Str := ["value"]
def tfis_condition : Tab := ⟨glC, [("_is_told", 2, f_is_told)], mdC⟩
def bfis_condition : Ss := (.cons (.ite (.or (.not (.isi (.var 0) .tup)) (.or (.op .ne (.bi .len (.cons (.var 0) .nil)) (.con (.int 2))) (.or (.not (.isi (.ix (.var 0) (.con (.int 0))) .str)) (.mdin true 0 (.ix (.var 0) (.con (.int 0))))))) (.cons (.ret (.con (.bl false))) .nil) .nil) (.cons (.ret (.call 0 (.cons (.mdix 0 (.ix (.var 0) (.con (.int 0)))) (.cons (.ix (.var 0) (.con (.int 1))) .nil)))) .nil))
def fis_condition : List D → Res (Mo × D) := runF tfis_condition xsC 1 bfis_condition
def Nfis_kept : List Str := ["row", "condition", "word", "told"]
def tfis_kept : Tab := ⟨glC, [("is_under", 2, fis_under)], mdC⟩
def bfis_kept : Ss := (.cons (.asg (.tp [(.nm 2), (.nm 3)]) (.var 1)) (.cons (.ite (.op (.inn false) (.var 2) (.tup (.cons (.con (.str [117,110,100,101,114])) (.cons (.con (.str [110,111,116])) .nil)))) (.cons (.ret (.op .eq (.call 0 (.cons (.ix (.var 0) (.con (.int 2))) (.cons (.var 3) .nil))) (.op .eq (.var 2) (.con (.str [117,110,100,101,114]))))) .nil) .nil) (.cons (.ite (.op (.inn false) (.var 2) (.tup (.cons (.con (.str [102,114,111,109])) (.cons (.con (.str [116,111])) .nil)))) (.cons (.ret (.ite (.op .eq (.var 2) (.con (.str [102,114,111,109]))) (.op (.cm .ge) (.ix (.var 0) (.con (.int 1))) (.var 3)) (.op (.cm .le) (.ix (.var 0) (.con (.int 1))) (.var 3)))) .nil) .nil) (.cons (.ite (.op .eq (.var 2) (.con (.str [105,110]))) (.cons (.ret (.op .eq (.ix (.var 0) (.con (.int 3))) (.var 3))) .nil) .nil) (.cons (.ite (.op (.inn false) (.var 2) (.tup (.cons (.con (.str [97,98,111,118,101])) (.cons (.con (.str [98,101,108,111,119])) .nil)))) (.cons (.ret (.ite (.op .eq (.var 2) (.con (.str [97,98,111,118,101]))) (.op (.cm .gt) (.ix (.var 0) (.con (.int 4))) (.var 3)) (.op (.cm .lt) (.ix (.var 0) (.con (.int 4))) (.var 3)))) .nil) .nil) (.cons (.ret (.op (.inn false) (.var 3) (.mt .split (.ix (.var 0) (.con (.int 5))) (.con (.str [32]))))) .nil))))))
def fis_kept : List D → Res (Mo × D) := runF tfis_kept xsC 4 bfis_kept
def Nf_is_rule : List Str := ["value", "one"]
def tf_is_rule : Tab := ⟨glC, [("is_account", 1, fis_account), ("is_condition", 1, fis_condition)], mdC⟩
def bf_is_rule : Ss := (.cons (.ite (.or (.not (.isi (.var 0) .tup)) (.or (.op .ne (.bi .len (.cons (.var 0) .nil)) (.con (.int 2))) (.or (.not (.isi (.ix (.var 0) (.con (.int 0))) .tup)) (.not (.call 0 (.cons (.ix (.var 0) (.con (.int 1))) .nil)))))) (.cons (.ret (.con (.bl false))) .nil) .nil) (.cons (.ret (.and (.op (.cm .le) (.bi .len (.cons (.ix (.var 0) (.con (.int 0))) .nil)) (.glob 10)) (.bi .all (.cons (.lc (.and (.call 1 (.cons (.var 1) .nil)) (.op .ne (.ix (.var 1) (.con (.int 0))) (.con (.str [105,110])))) [1] (.nm 1) (.of (.ix (.var 0) (.con (.int 0)))) .no) .nil)))) .nil))
def f_is_rule : List D → Res (Mo × D) := runF tf_is_rule xsC 2 bf_is_rule
def Nfare_rules : List Str := ["value", "one"]
def tfare_rules : Tab := ⟨glC, [("_is_rule", 1, f_is_rule)], mdC⟩
def bfare_rules : Ss := (.cons (.ret (.and (.isi (.var 0) .tup) (.and (.op (.cm .le) (.bi .len (.cons (.var 0) .nil)) (.glob 9)) (.bi .all (.cons (.lc (.call 0 (.cons (.var 1) .nil)) [1] (.nm 1) (.of (.var 0)) .no) .nil))))) .nil)
def fare_rules : List D → Res (Mo × D) := runF tfare_rules xsC 2 bfare_rules
def Nfcheck_rules : List Str := ["values", "value"]
def tfcheck_rules : Tab := ⟨glC, [("are_rules", 1, fare_rules)], mdC⟩
def bfcheck_rules : Ss := (.cons (.ite (.not (.bi .all (.cons (.lc (.call 0 (.cons (.var 1) .nil)) [1] (.nm 1) (.of (.var 0)) .no) .nil))) (.cons (.raise 2) .nil) .nil) .nil)
def fcheck_rules : List D → Res (Mo × D) := runF tfcheck_rules xsC 2 bfcheck_rules
def Nfis_bank_row : List Str := ["value"]
def tfis_bank_row : Tab := ⟨glC, [("is_account", 1, fis_account), ("is_day", 1, fis_day), ("are_words", 1, fare_words), ("is_amount", 1, fis_amount)], mdC⟩
def bfis_bank_row : Ss := (.cons (.ite (.or (.not (.isi (.var 0) .tup)) (.or (.op .ne (.bi .len (.cons (.var 0) .nil)) (.con (.int 4))) (.or (.not (.call 1 (.cons (.ix (.var 0) (.con (.int 0))) .nil))) (.not (.call 0 (.cons (.ix (.var 0) (.con (.int 1))) .nil)))))) (.cons (.ret (.con (.bl false))) .nil) .nil) (.cons (.ret (.and (.call 3 (.cons (.ix (.var 0) (.con (.int 2))) .nil)) (.call 2 (.cons (.ix (.var 0) (.con (.int 3))) .nil)))) .nil))
def fis_bank_row : List D → Res (Mo × D) := runF tfis_bank_row xsC 1 bfis_bank_row
def Nf_as_row : List Str := ["row"]
def tf_as_row : Tab := ⟨glC, [], mdC⟩
def bf_as_row : Ss := (.cons (.ret (.tup (.cons (.con (.int 0)) (.cons (.ix (.var 0) (.con (.int 0))) (.cons (.ix (.var 0) (.con (.int 1))) (.cons (.con (.str [])) (.cons (.ix (.var 0) (.con (.int 2))) (.cons (.ix (.var 0) (.con (.int 3))) .nil)))))))) .nil)
def f_as_row : List D → Res (Mo × D) := runF tf_as_row xsC 1 bf_as_row
def Nffound_rule : List Str := ["rules", "row", "number", "conditions", "_target", "condition"]
def tffound_rule : Tab := ⟨glC, [("is_kept", 2, fis_kept), ("_as_row", 1, f_as_row)], mdC⟩
def bffound_rule : Ss := (.cons (.for (.tp [(.nm 2), (.tp [(.nm 3), (.nm 4)])]) (.enm (.var 0)) (.cons (.ite (.bi .all (.cons (.lc (.call 0 (.cons (.call 1 (.cons (.var 1) .nil)) (.cons (.var 5) .nil))) [5] (.nm 5) (.of (.var 3)) .no) .nil)) (.cons (.ret (.var 2)) .nil) .nil) .nil)) (.cons (.ret (.con .non)) .nil))
def ffound_rule : List D → Res (Mo × D) := runF tffound_rule xsC 6 bffound_rule
def Nfsorted_by : List Str := ["rules", "row"]
def tfsorted_by : Tab := ⟨glC, [("check_rules", 1, fcheck_rules), ("is_bank_row", 1, fis_bank_row), ("found_rule", 2, ffound_rule)], mdC⟩
def bfsorted_by : Ss := (.cons (.xp (.call 0 (.cons (.lst (.cons (.var 0) .nil)) .nil))) (.cons (.ite (.not (.call 1 (.cons (.var 1) .nil))) (.cons (.raise 3) .nil) .nil) (.cons (.ret (.call 2 (.cons (.var 0) (.cons (.var 1) .nil)))) .nil)))
def fsorted_by : List D → Res (Mo × D) := runF tfsorted_by xsC 2 bfsorted_by
def Nf_told : List Str := ["rules", "word", "found", "conditions", "_target", "one", "told"]
def tf_told : Tab := ⟨glC, [], mdC⟩
def bf_told : Ss := (.cons (.set 2 true (.dic 0 [] .nil)) (.cons (.for (.tp [(.nm 3), (.nm 4)]) (.of (.var 0)) (.cons (.for (.tp [(.nm 5), (.nm 6)]) (.of (.var 3)) (.cons (.ite (.op .eq (.var 5) (.var 1)) (.cons (.setI 2 (.var 6) (.con (.bl true))) .nil) .nil) .nil)) .nil)) (.cons (.ret (.var 2)) .nil)))
def f_told : List D → Res (Mo × D) := runF tf_told xsC 7 bf_told
def Nf_days : List Str := ["rules", "days", "day"]
def tf_days : Tab := ⟨glC, [("_told", 2, f_told), ("is_day", 1, fis_day)], mdC⟩
def bf_days : Ss := (.cons (.set 1 true (.dic 0 [(.int 0)] (.cons (.con (.bl true)) .nil))) (.cons (.upd 1 (.call 0 (.cons (.var 0) (.cons (.con (.str [102,114,111,109])) .nil)))) (.cons (.for (.nm 2) (.of (.call 0 (.cons (.var 0) (.cons (.con (.str [116,111])) .nil)))) (.cons (.ite (.call 1 (.cons (.op .add (.var 2) (.con (.int 1))) .nil)) (.cons (.setI 1 (.op .add (.var 2) (.con (.int 1))) (.con (.bl true))) .nil) .nil) .nil)) (.cons (.ret (.bi .sorted (.cons (.var 1) .nil))) .nil))))
def f_days : List D → Res (Mo × D) := runF tf_days xsC 3 bf_days
def Nf_amounts : List Str := ["rules", "amounts", "amount"]
def tf_amounts : Tab := ⟨glC, [("_told", 2, f_told), ("is_amount", 1, fis_amount)], mdC⟩
def bf_amounts : Ss := (.cons (.set 1 true (.dic1 (.op .sub (.con (.int 0)) (.glob 5)) (.con (.bl true)))) (.cons (.upd 1 (.call 0 (.cons (.var 0) (.cons (.con (.str [98,101,108,111,119])) .nil)))) (.cons (.for (.nm 2) (.of (.call 0 (.cons (.var 0) (.cons (.con (.str [97,98,111,118,101])) .nil)))) (.cons (.ite (.call 1 (.cons (.op .add (.var 2) (.con (.int 1))) .nil)) (.cons (.setI 1 (.op .add (.var 2) (.con (.int 1))) (.con (.bl true))) .nil) .nil) .nil)) (.cons (.ret (.bi .sorted (.cons (.var 1) .nil))) .nil))))
def f_amounts : List D → Res (Mo × D) := runF tf_amounts xsC 3 bf_amounts
def Nf_accounts : List Str := ["rules", "accounts", "spare", "name", "letter"]
def tf_accounts : Tab := ⟨glC, [("_told", 2, f_told)], mdC⟩
def bf_accounts : Ss := (.cons (.set 1 true (.call 0 (.cons (.var 0) (.cons (.con (.str [117,110,100,101,114])) .nil)))) (.cons (.upd 1 (.call 0 (.cons (.var 0) (.cons (.con (.str [110,111,116])) .nil)))) (.cons (.set 2 false (.lc (.var 3) [3] (.nm 3) (.of (.op .add (.bi .list (.cons (.glob 6) .nil)) (.lc (.op .add (.con (.str [97])) (.var 4)) [4] (.nm 4) (.of (.glob 6)) .no))) (.so (.op (.inn true) (.var 3) (.var 1))))) (.cons (.ret (.bi .sorted (.cons (.op .add (.bi .list (.cons (.var 1) .nil)) (.sl (.var 2) .no (.so (.con (.int 1))))) .nil))) .nil))))
def f_accounts : List D → Res (Mo × D) := runF tf_accounts xsC 5 bf_accounts
def Nf_words : List Str := ["rules", "found", "word", "texts", "one", "text"]
def tf_words : Tab := ⟨glC, [("_told", 2, f_told), ("are_words", 1, fare_words)], mdC⟩
def bf_words : Ss := (.cons (.set 1 false (.lst (.cons (.tup .nil) .nil))) (.cons (.for (.nm 2) (.of (.bi .sorted (.cons (.call 0 (.cons (.var 0) (.cons (.con (.str [119,111,114,100])) .nil))) .nil))) (.cons (.set 1 false (.op .add (.var 1) (.lc (.op .add (.var 4) (.tup (.cons (.var 2) .nil))) [4] (.nm 4) (.of (.var 1)) (.so (.call 1 (.cons (.mt .join (.con (.str [32])) (.op .add (.var 4) (.tup (.cons (.var 2) .nil)))) .nil)))))) (.cons (.ite (.op (.cm .gt) (.bi .len (.cons (.var 1) .nil)) (.glob 11)) (.cons (.raise 1) .nil) .nil) .nil))) (.cons (.set 3 false (.lc (.mt .join (.con (.str [32])) (.var 4)) [4] (.nm 4) (.of (.var 1)) .no)) (.cons (.ret (.bi .sorted (.cons (.lc (.var 5) [5] (.nm 5) (.of (.var 3)) (.so (.call 1 (.cons (.var 5) .nil)))) .nil))) .nil))))
def f_words : List D → Res (Mo × D) := runF tf_words xsC 6 bf_words
def Nffound_samples : List Str := ["rules", "parts", "count", "part", "rows", "longer", "row", "one"]
def tffound_samples : Tab := ⟨glC, [("_days", 1, f_days), ("_accounts", 1, f_accounts), ("_amounts", 1, f_amounts), ("_words", 1, f_words)], mdC⟩
def bffound_samples : Ss := (.cons (.set 1 false (.lst (.cons (.call 0 (.cons (.var 0) .nil)) (.cons (.call 1 (.cons (.var 0) .nil)) (.cons (.call 2 (.cons (.var 0) .nil)) (.cons (.call 3 (.cons (.var 0) .nil)) .nil)))))) (.cons (.set 2 false (.con (.int 1))) (.cons (.for (.nm 3) (.of (.var 1)) (.cons (.aug 2 .mul (.bi .len (.cons (.var 3) .nil))) .nil)) (.cons (.ite (.op (.cm .gt) (.var 2) (.glob 11)) (.cons (.raise 1) .nil) .nil) (.cons (.set 4 false (.lst (.cons (.tup .nil) .nil))) (.cons (.for (.nm 3) (.of (.var 1)) (.cons (.set 5 true (.lst .nil)) (.cons (.for (.nm 6) (.of (.var 4)) (.cons (.ext 5 (.lc (.op .add (.var 6) (.tup (.cons (.var 7) .nil))) [7] (.nm 7) (.of (.var 3)) .no)) .nil)) (.frz 5 (.cons (.set 4 false (.var 5)) .nil))))) (.cons (.ret (.var 4)) .nil)))))))
def ffound_samples : List D → Res (Mo × D) := runF tffound_samples xsC 8 bffound_samples
def Nfsamples : List Str := ["rules"]
def tfsamples : Tab := ⟨glC, [("check_rules", 1, fcheck_rules), ("found_samples", 1, ffound_samples)], mdC⟩
def bfsamples : Ss := (.cons (.xp (.call 0 (.cons (.lst (.cons (.var 0) .nil)) .nil))) (.cons (.ret (.bi .tuple (.cons (.call 1 (.cons (.var 0) .nil)) .nil))) .nil))
def fsamples : List D → Res (Mo × D) := runF tfsamples xsC 1 bfsamples
def Nffirst_samples : List Str := ["rules", "found", "row", "number"]
def tffirst_samples : Tab := ⟨glC, [("check_rules", 1, fcheck_rules), ("found_samples", 1, ffound_samples), ("found_rule", 2, ffound_rule)], mdC⟩
def bffirst_samples : Ss := (.cons (.xp (.call 0 (.cons (.lst (.cons (.var 0) .nil)) .nil))) (.cons (.set 1 true (.dic 2 [] .nil)) (.cons (.for (.nm 2) (.of (.call 1 (.cons (.var 0) .nil))) (.cons (.setd 1 (.call 2 (.cons (.var 0) (.cons (.var 2) .nil))) (.var 2)) .nil)) (.cons (.ret (.bi .tuple (.cons (.lc (.mt .get (.var 1) (.var 3)) [3] (.nm 3) (.rng (.cons (.bi .len (.cons (.var 0) .nil)) .nil)) .no) .nil))) .nil))))
def ffirst_samples : List D → Res (Mo × D) := runF tffirst_samples xsC 4 bffirst_samples
def Nfsamples_fault : List Str := ["rules", "rows", "there", "number", "row"]
def tfsamples_fault : Tab := ⟨glC, [("check_rules", 1, fcheck_rules), ("is_bank_row", 1, fis_bank_row), ("found_rule", 2, ffound_rule), ("found_samples", 1, ffound_samples)], mdC⟩
def bfsamples_fault : Ss := (.cons (.xp (.call 0 (.cons (.lst (.cons (.var 0) .nil)) .nil))) (.cons (.ite (.or (.not (.isi (.var 1) .tup)) (.op .ne (.bi .len (.cons (.var 1) .nil)) (.bi .len (.cons (.var 0) .nil)))) (.cons (.ret (.glob 12)) .nil) .nil) (.cons (.ite (.not (.bi .all (.cons (.lc (.or (.op (.is false) (.var 4) (.con .non)) (.call 1 (.cons (.var 4) .nil))) [4] (.nm 4) (.of (.var 1)) .no) .nil))) (.cons (.ret (.glob 12)) .nil) .nil) (.cons (.set 2 false (.dc (.call 2 (.cons (.var 0) (.cons (.var 4) .nil))) (.con (.bl true)) [4] (.nm 4) (.of (.call 3 (.cons (.var 0) .nil))) .no)) (.cons (.for (.tp [(.nm 3), (.nm 4)]) (.enm (.var 1)) (.cons (.ite (.or (.and (.op (.is false) (.var 4) (.con .non)) (.op (.inn false) (.var 3) (.var 2))) (.and (.op (.is true) (.var 4) (.con .non)) (.op .ne (.call 2 (.cons (.var 0) (.cons (.var 4) .nil))) (.var 3)))) (.cons (.ret (.var 3)) .nil) .nil) .nil)) (.cons (.ret (.con .non)) .nil))))))
def fsamples_fault : List D → Res (Mo × D) := runF tfsamples_fault xsC 5 bfsamples_fault
def Nf_target : List Str := ["rules", "row", "number"]
def tf_target : Tab := ⟨glC, [("found_rule", 2, ffound_rule)], mdC⟩
def bf_target : Ss := (.cons (.set 2 false (.call 0 (.cons (.var 0) (.cons (.var 1) .nil)))) (.cons (.ret (.ite (.op (.is false) (.var 2) (.con .non)) (.con .non) (.ix (.ix (.var 0) (.var 2)) (.con (.int 1))))) .nil))
def f_target : List D → Res (Mo × D) := runF tf_target xsC 3 bf_target
def Nf_apart : List Str := ["rules", "other", "row"]
def tf_apart : Tab := ⟨glC, [("found_samples", 1, ffound_samples), ("_target", 2, f_target)], mdC⟩
def bf_apart : Ss := (.cons (.for (.nm 2) (.of (.call 0 (.cons (.op .add (.var 0) (.var 1)) .nil))) (.cons (.ite (.op .ne (.call 1 (.cons (.var 0) (.cons (.var 2) .nil))) (.call 1 (.cons (.var 1) (.cons (.var 2) .nil)))) (.cons (.ret (.var 2)) .nil) .nil) .nil)) (.cons (.ret (.con .non)) .nil))
def f_apart : List D → Res (Mo × D) := runF tf_apart xsC 3 bf_apart
def Nfsorted_apart : List Str := ["rules", "other"]
def tfsorted_apart : Tab := ⟨glC, [("check_rules", 1, fcheck_rules), ("_apart", 2, f_apart)], mdC⟩
def bfsorted_apart : Ss := (.cons (.xp (.call 0 (.cons (.lst (.cons (.var 0) (.cons (.var 1) .nil))) .nil))) (.cons (.ret (.call 1 (.cons (.var 0) (.cons (.var 1) .nil)))) .nil))
def fsorted_apart : List D → Res (Mo × D) := runF tfsorted_apart xsC 2 bfsorted_apart
def Nf_without : List Str := ["rules", "number"]
def tf_without : Tab := ⟨glC, [], mdC⟩
def bf_without : Ss := (.cons (.ret (.op .add (.sl (.var 0) .no (.so (.var 1))) (.sl (.var 0) (.so (.op .add (.var 1) (.con (.int 1)))) .no))) .nil)
def f_without : List D → Res (Mo × D) := runF tf_without xsC 2 bf_without
def Nfidle : List Str := ["rules", "number"]
def tfidle : Tab := ⟨glC, [("check_rules", 1, fcheck_rules), ("_apart", 2, f_apart), ("_without", 2, f_without)], mdC⟩
def bfidle : Ss := (.cons (.xp (.call 0 (.cons (.lst (.cons (.var 0) .nil)) .nil))) (.cons (.ret (.bi .tuple (.cons (.lc (.var 1) [1] (.nm 1) (.rng (.cons (.bi .len (.cons (.var 0) .nil)) .nil)) (.so (.op (.is false) (.call 1 (.cons (.var 0) (.cons (.call 2 (.cons (.var 0) (.cons (.var 1) .nil))) .nil))) (.con .non)))) .nil))) .nil))
def fidle : List D → Res (Mo × D) := runF tfidle xsC 2 bfidle
def Nffewer : List Str := ["rules", "left", "number"]
def tffewer : Tab := ⟨glC, [("check_rules", 1, fcheck_rules), ("_apart", 2, f_apart), ("_without", 2, f_without)], mdC⟩
def bffewer : Ss := (.cons (.xp (.call 0 (.cons (.lst (.cons (.var 0) .nil)) .nil))) (.cons (.set 1 false (.var 0)) (.cons (.for (.nm 2) (.of (.rev (.lrng .no (.bi .len (.cons (.var 0) .nil))))) (.cons (.ite (.op (.is false) (.call 1 (.cons (.var 1) (.cons (.call 2 (.cons (.var 1) (.cons (.var 2) .nil))) .nil))) (.con .non)) (.cons (.set 1 false (.call 2 (.cons (.var 1) (.cons (.var 2) .nil)))) .nil) .nil) .nil)) (.cons (.ret (.var 1)) .nil))))
def ffewer : List D → Res (Mo × D) := runF tffewer xsC 3 bffewer
def Nf_law_draws : List Str := ["script", "many", "draws", "seed", "cell", "k", "number"]
def tf_law_draws : Tab := ⟨glC, [], mdC⟩
def bf_law_draws : Ss := (.cons (.set 2 true (.lst .nil)) (.cons (.set 3 false (.con (.int 7))) (.cons (.for (.nm 4) (.of (.sl (.var 0) .no (.so (.con (.int 63))))) (.cons (.set 6 false (.bi .abs (.cons (.var 4) .nil))) (.cons (.set 3 false (.op .mod (.bi .int (.cons (.op .add (.op .add (.op .mul (.var 3) (.con (.int 48271))) (.var 6)) (.con (.int 11))) .nil)) (.con (.int 2147483647)))) (.cons (.ite (.op (.cm .ge) (.var 6) (.op .pow (.con (.int 10)) (.con (.int 18)))) (.cons (.for (.nm 5) (.rng (.cons (.con (.int 60)) .nil)) (.cons (.ite (.op (.cm .gt) (.var 6) (.con (.int 0))) (.cons (.app 2 (.op .mod (.bi .int (.cons (.var 6) .nil)) (.con (.int 1009)))) (.cons (.set 6 false (.op .fdiv (.var 6) (.con (.int 1009)))) .nil)) .nil) .nil)) .nil) (.cons (.app 2 (.op .mod (.op .fdiv (.bi .int (.cons (.op .add (.op .mul (.var 3) (.con (.int 16807))) (.con (.int 5))) .nil)) (.con (.int 3))) (.con (.int 65521)))) .nil)) .nil)))) (.cons (.for (.nm 5) (.rng (.cons (.var 1) .nil)) (.cons (.ite (.op (.cm .lt) (.bi .len (.cons (.var 2) .nil)) (.var 1)) (.cons (.set 3 false (.op .mod (.bi .int (.cons (.op .add (.op .add (.op .mul (.var 3) (.con (.int 69621))) (.var 5)) (.con (.int 1))) .nil)) (.con (.int 2147483647)))) (.cons (.app 2 (.op .mod (.op .fdiv (.bi .int (.cons (.var 3) .nil)) (.con (.int 7))) (.con (.int 65521)))) .nil)) .nil) .nil)) (.cons (.ret (.sl (.var 2) .no (.so (.var 1)))) .nil)))))
def f_law_draws : List D → Res (Mo × D) := runF tf_law_draws xsC 7 bf_law_draws
def Nf_law_letters : List Str := []
def tf_law_letters : Tab := ⟨glC, [], mdC⟩
def bf_law_letters : Ss := (.cons (.ret (.con (.str [97,98,99,100,101,102,103,104,105,106,107,108,109,110,111,112,113,114,115,116,117,118,119,120,121,122]))) .nil)
def f_law_letters : List D → Res (Mo × D) := runF tf_law_letters xsC 0 bf_law_letters
def Nf_law_keeps : List Str := ["row", "word", "told", "day", "account", "amount", "words"]
def tf_law_keeps : Tab := ⟨glC, [], mdC⟩
def bf_law_keeps : Ss := (.cons (.asg (.tp [(.nm 3), (.nm 4), (.nm 5), (.nm 6)]) (.var 0)) (.cons (.ite (.op (.inn false) (.var 1) (.tup (.cons (.con (.str [117,110,100,101,114])) (.cons (.con (.str [110,111,116])) .nil)))) (.cons (.ret (.op .eq (.or (.op .eq (.var 4) (.var 2)) (.op .eq (.sl (.var 4) .no (.so (.op .add (.bi .len (.cons (.var 2) .nil)) (.con (.int 1))))) (.op .add (.var 2) (.con (.str [58]))))) (.op .eq (.var 1) (.con (.str [117,110,100,101,114]))))) .nil) .nil) (.cons (.ite (.op (.inn false) (.var 1) (.tup (.cons (.con (.str [102,114,111,109])) (.cons (.con (.str [116,111])) .nil)))) (.cons (.ret (.ite (.op .eq (.var 1) (.con (.str [102,114,111,109]))) (.op (.cm .ge) (.var 3) (.var 2)) (.op (.cm .le) (.var 3) (.var 2)))) .nil) .nil) (.cons (.ite (.op (.inn false) (.var 1) (.tup (.cons (.con (.str [97,98,111,118,101])) (.cons (.con (.str [98,101,108,111,119])) .nil)))) (.cons (.ret (.ite (.op .eq (.var 1) (.con (.str [97,98,111,118,101]))) (.op (.cm .gt) (.var 5) (.var 2)) (.op (.cm .lt) (.var 5) (.var 2)))) .nil) .nil) (.cons (.ret (.op (.inn false) (.var 2) (.mt .split (.var 6) (.con (.str [32]))))) .nil)))))
def f_law_keeps : List D → Res (Mo × D) := runF tf_law_keeps xsC 7 bf_law_keeps
def Nf_law_told : List Str := ["rules", "word", "found", "conditions", "target", "one", "told"]
def tf_law_told : Tab := ⟨glC, [], mdC⟩
def bf_law_told : Ss := (.cons (.set 2 false (.lst .nil)) (.cons (.for (.tp [(.nm 3), (.nm 4)]) (.of (.var 0)) (.cons (.set 2 false (.op .add (.var 2) (.lc (.var 6) [5, 6] (.tp [(.nm 5), (.nm 6)]) (.of (.var 3)) (.so (.op .eq (.var 5) (.var 1)))))) .nil)) (.cons (.ret (.sset (.var 2))) .nil)))
def f_law_told : List D → Res (Mo × D) := runF tf_law_told xsC 7 bf_law_told
def Nf_law_texts : List Str := ["words", "found", "word", "text"]
def tf_law_texts : Tab := ⟨glC, [], mdC⟩
def bf_law_texts : Ss := (.cons (.set 1 false (.lst (.cons (.con (.str [])) .nil))) (.cons (.for (.nm 2) (.of (.var 0)) (.cons (.set 1 false (.op .add (.var 1) (.lc (.ite (.op .ne (.var 3) (.con (.str []))) (.op .add (.op .add (.var 3) (.con (.str [32]))) (.var 2)) (.var 2)) [3] (.nm 3) (.of (.var 1)) .no))) .nil)) (.cons (.ret (.bi .sorted (.cons (.lc (.var 3) [3] (.nm 3) (.of (.var 1)) (.so (.op (.cm .lt) (.bi .len (.cons (.var 3) .nil)) (.con (.int 41))))) .nil))) .nil)))
def f_law_texts : List D → Res (Mo × D) := runF tf_law_texts xsC 4 bf_law_texts
def Nf_law_parts : List Str := ["rules", "days", "accounts", "spare", "amounts", "most", "last", "name", "day", "sign", "amount"]
def tf_law_parts : Tab := ⟨glC, [("_law_told", 2, f_law_told), ("_law_letters", 0, f_law_letters), ("_law_texts", 1, f_law_texts)], mdC⟩
def bf_law_parts : Ss := (.cons (.asg (.tp [(.nm 5), (.nm 6)]) (.tup (.cons (.op .pow (.con (.int 10)) (.con (.int 15))) (.cons (.con (.int 100000)) .nil)))) (.cons (.set 1 false (.sset (.op .add (.op .add (.lst (.cons (.con (.int 0)) .nil)) (.call 0 (.cons (.var 0) (.cons (.con (.str [102,114,111,109])) .nil)))) (.lc (.op .add (.var 8) (.con (.int 1))) [8] (.nm 8) (.of (.call 0 (.cons (.var 0) (.cons (.con (.str [116,111])) .nil)))) (.so (.op (.cm .lt) (.var 8) (.var 6))))))) (.cons (.set 2 false (.sset (.op .add (.call 0 (.cons (.var 0) (.cons (.con (.str [117,110,100,101,114])) .nil))) (.call 0 (.cons (.var 0) (.cons (.con (.str [110,111,116])) .nil)))))) (.cons (.set 3 false (.lc (.var 7) [7] (.nm 7) (.of (.op .add (.bi .list (.cons (.call 1 .nil) .nil)) (.lc (.op .add (.con (.str [97])) (.var 9)) [9] (.nm 9) (.of (.call 1 .nil)) .no))) (.so (.op (.inn true) (.var 7) (.var 2))))) (.cons (.set 4 false (.sset (.op .add (.op .add (.lst (.cons (.op .sub (.con (.int 0)) (.var 5)) .nil)) (.call 0 (.cons (.var 0) (.cons (.con (.str [98,101,108,111,119])) .nil)))) (.lc (.op .add (.var 10) (.con (.int 1))) [10] (.nm 10) (.of (.call 0 (.cons (.var 0) (.cons (.con (.str [97,98,111,118,101])) .nil)))) (.so (.op (.cm .lt) (.var 10) (.var 5))))))) (.cons (.ret (.tup (.cons (.var 1) (.cons (.bi .sorted (.cons (.op .add (.var 2) (.sl (.var 3) .no (.so (.con (.int 1))))) .nil)) (.cons (.var 4) (.cons (.call 2 (.cons (.call 0 (.cons (.var 0) (.cons (.con (.str [119,111,114,100])) .nil))) .nil)) .nil)))))) .nil))))))
def f_law_parts : List D → Res (Mo × D) := runF tf_law_parts xsC 11 bf_law_parts
def Nf_law_rows : List Str := ["parts", "rows", "part", "longer", "row", "one"]
def tf_law_rows : Tab := ⟨glC, [], mdC⟩
def bf_law_rows : Ss := (.cons (.set 1 false (.lst (.cons (.tup .nil) .nil))) (.cons (.for (.nm 2) (.of (.var 0)) (.cons (.set 3 false (.lst .nil)) (.cons (.for (.nm 4) (.of (.var 1)) (.cons (.set 3 false (.op .add (.var 3) (.lc (.op .add (.var 4) (.tup (.cons (.var 5) .nil))) [5] (.nm 5) (.of (.var 2)) .no))) .nil)) (.cons (.set 1 false (.var 3)) .nil)))) (.cons (.ret (.var 1)) .nil)))
def f_law_rows : List D → Res (Mo × D) := runF tf_law_rows xsC 6 bf_law_rows
def Nf_law_first : List Str := ["rules", "row", "k", "word", "told"]
def tf_law_first : Tab := ⟨glC, [("_law_keeps", 3, f_law_keeps)], mdC⟩
def bf_law_first : Ss := (.cons (.for (.nm 2) (.rng (.cons (.bi .len (.cons (.var 0) .nil)) .nil)) (.cons (.ite (.bi .all (.cons (.lc (.call 0 (.cons (.var 1) (.cons (.var 3) (.cons (.var 4) .nil)))) [3, 4] (.tp [(.nm 3), (.nm 4)]) (.of (.ix (.ix (.var 0) (.var 2)) (.con (.int 0)))) .no) .nil)) (.cons (.ret (.var 2)) .nil) .nil) .nil)) (.cons (.ret (.con .non)) .nil))
def f_law_first : List D → Res (Mo × D) := runF tf_law_first xsC 5 bf_law_first
def Nf_law_kept : List Str := ["rules", "row", "conditions", "target", "word", "told"]
def tf_law_kept : Tab := ⟨glC, [("_law_keeps", 3, f_law_keeps)], mdC⟩
def bf_law_kept : Ss := (.cons (.ret (.lc (.lc (.call 0 (.cons (.var 1) (.cons (.var 4) (.cons (.var 5) .nil)))) [4, 5] (.tp [(.nm 4), (.nm 5)]) (.of (.var 2)) .no) [2, 3] (.tp [(.nm 2), (.nm 3)]) (.of (.var 0)) .no)) .nil)
def f_law_kept : List D → Res (Mo × D) := runF tf_law_kept xsC 6 bf_law_kept
def Nf_law_samples : List Str := ["rules"]
def tf_law_samples : Tab := ⟨glC, [("samples", 1, fsamples)], mdC⟩
def bf_law_samples : Ss := (.cons (.try1 1 (.call 0 (.cons (.var 0) .nil))) .nil)
def f_law_samples : List D → Res (Mo × D) := runF tf_law_samples xsC 1 bf_law_samples
/-- _law_are_too_many: no meaning -/
def f_law_are_too_many (_ : List D) : Res (Mo × D) := .st
def Nf_law_rules : List Str := ["draws", "k", "most", "last", "found", "n", "own", "conditions", "draw", "word", "told"]
def tf_law_rules : Tab := ⟨glC, [], mdC⟩
def bf_law_rules : Ss := (.cons (.par [(2, false), (3, false), (4, true)] (.cons (.op .pow (.con (.int 10)) (.con (.int 15))) (.cons (.con (.int 100000)) (.cons (.lst .nil) .nil)))) (.cons (.for (.nm 1) (.rng (.cons (.op .add (.con (.int 2)) (.op .mod (.bi .int (.cons (.ix (.var 0) (.con (.int 0))) .nil)) (.con (.int 7)))) .nil)) (.cons (.par [(6, false), (7, true)] (.cons (.sl (.var 0) (.so (.op .add (.con (.int 1)) (.op .mul (.con (.int 7)) (.var 1)))) .no) (.cons (.lst .nil) .nil))) (.cons (.for (.nm 5) (.rng (.cons (.op .mod (.bi .int (.cons (.ix (.var 6) (.con (.int 0))) .nil)) (.con (.int 4))) .nil)) (.cons (.set 8 false (.bi .int (.cons (.ix (.var 6) (.op .add (.con (.int 1)) (.var 5))) .nil))) (.cons (.set 9 false (.ix (.tup (.cons (.con (.str [117,110,100,101,114])) (.cons (.con (.str [110,111,116])) (.cons (.con (.str [102,114,111,109])) (.cons (.con (.str [116,111])) (.cons (.con (.str [97,98,111,118,101])) (.cons (.con (.str [98,101,108,111,119])) (.cons (.con (.str [119,111,114,100])) .nil)))))))) (.op .mod (.var 8) (.con (.int 7))))) (.cons (.set 10 true (.dic 0 [(.str [117,110,100,101,114]), (.str [110,111,116]), (.str [102,114,111,109])] (.cons (.ix (.tup (.cons (.con (.str [97])) (.cons (.con (.str [97,58,98])) (.cons (.con (.str [98])) (.cons (.con (.str [122,122,58,121])) .nil))))) (.op .mod (.op .fdiv (.var 8) (.con (.int 7))) (.con (.int 4)))) (.cons (.ix (.tup (.cons (.con (.str [97])) (.cons (.con (.str [99])) (.cons (.con (.str [97,58,98,58,99])) .nil)))) (.op .mod (.op .fdiv (.var 8) (.con (.int 7))) (.con (.int 3)))) (.cons (.ix (.tup (.cons (.con (.int 0)) (.cons (.var 3) (.cons (.con (.int 7)) .nil)))) (.op .mod (.op .fdiv (.var 8) (.con (.int 7))) (.con (.int 3)))) .nil))))) (.cons (.put2 10 (.con (.str [116,111])) 10 (.con (.str [97,98,111,118,101])) (.tup (.cons (.ix (.tup (.cons (.con (.int 0)) (.cons (.var 3) (.cons (.op .sub (.var 3) (.con (.int 1))) (.cons (.con (.int 6)) .nil))))) (.op .mod (.op .fdiv (.var 8) (.con (.int 7))) (.con (.int 4)))) (.cons (.ix (.tup (.cons (.var 2) (.cons (.op .sub (.var 2) (.con (.int 1))) (.cons (.op .sub (.con (.int 0)) (.var 2)) (.cons (.con (.int 0)) .nil))))) (.op .mod (.op .fdiv (.var 8) (.con (.int 7))) (.con (.int 4)))) .nil)))) (.cons (.put2 10 (.con (.str [98,101,108,111,119])) 10 (.con (.str [119,111,114,100])) (.tup (.cons (.ix (.tup (.cons (.var 2) (.cons (.op .sub (.con (.int 0)) (.var 2)) (.cons (.con (.int 1)) .nil)))) (.op .mod (.op .fdiv (.var 8) (.con (.int 7))) (.con (.int 3)))) (.cons (.ix (.tup (.cons (.con (.str [120])) (.cons (.con (.str [114,101,110,116])) (.cons (.op .mul (.con (.str [97])) (.con (.int 25))) (.cons (.op .mul (.con (.str [98])) (.con (.int 14))) .nil))))) (.op .mod (.op .fdiv (.var 8) (.con (.int 7))) (.con (.int 4)))) .nil)))) (.cons (.app 7 (.tup (.cons (.var 9) (.cons (.ix (.var 10) (.var 9)) .nil)))) .nil))))))) (.cons (.app 4 (.tup (.cons (.bi .tuple (.cons (.var 7) .nil)) (.cons (.ix (.tup (.cons (.con (.str [116])) (.cons (.con (.str [117,58,118])) .nil))) (.op .mod (.bi .int (.cons (.ix (.var 6) (.con (.int 6))) .nil)) (.con (.int 2)))) .nil)))) .nil)))) (.cons (.ret (.bi .tuple (.cons (.var 4) .nil))) .nil)))
def f_law_rules : List D → Res (Mo × D) := runF tf_law_rules xsC 11 bf_law_rules
def Nf_law_many : List Str := ["one", "two", "three", "four", "found", "k"]
def tf_law_many : Tab := ⟨glC, [("_law_letters", 0, f_law_letters)], mdC⟩
def bf_law_many : Ss := (.cons (.set 4 false (.op .add (.lc (.tup (.cons (.con (.str [102,114,111,109])) (.cons (.op .mul (.con (.int 10)) (.op .add (.var 5) (.con (.int 1)))) .nil))) [5] (.nm 5) (.rng (.cons (.op .sub (.var 0) (.con (.int 1))) .nil)) .no) (.lc (.tup (.cons (.con (.str [110,111,116])) (.cons (.op .add (.con (.str [110])) (.ix (.call 0 .nil) (.var 5))) .nil))) [5] (.nm 5) (.rng (.cons (.op .sub (.var 1) (.con (.int 1))) .nil)) .no))) (.cons (.set 4 false (.op .add (.op .add (.var 4) (.lc (.tup (.cons (.con (.str [98,101,108,111,119])) (.cons (.var 5) .nil))) [5] (.nm 5) (.rng (.cons (.op .sub (.var 2) (.con (.int 1))) .nil)) .no)) (.lc (.tup (.cons (.con (.str [119,111,114,100])) (.cons (.op .add (.con (.str [119])) (.ix (.call 0 .nil) (.var 5))) .nil))) [5] (.nm 5) (.rng (.cons (.var 3) .nil)) .no))) (.cons (.ret (.bi .tuple (.cons (.lc (.tup (.cons (.bi .tuple (.cons (.sl (.var 4) (.so (.var 5)) (.so (.op .add (.var 5) (.con (.int 6))))) .nil)) (.cons (.con (.str [116])) .nil))) [5] (.nm 5) (.rng (.cons (.con (.int 0)) (.cons (.bi .len (.cons (.var 4) .nil)) (.cons (.con (.int 6)) .nil)))) .no) .nil))) .nil)))
def f_law_many : List D → Res (Mo × D) := runF tf_law_many xsC 6 bf_law_many
def Nflaw : List Str := ["script", "draws", "rules", "parts", "many", "every", "rows", "told", "sorts", "firsts", "k", "counts", "is_let", "wide", "due", "left", "row", "rest", "same", "n", "name", "other", "one", "sign"]
def tflaw : Tab := ⟨glC, [("_law_draws", 2, f_law_draws), ("_law_rules", 1, f_law_rules), ("_law_parts", 1, f_law_parts), ("_law_are_too_many", 1, f_law_are_too_many), ("_law_samples", 1, f_law_samples), ("_law_rows", 1, f_law_rows), ("_law_first", 2, f_law_first), ("samples_fault", 2, fsamples_fault), ("first_samples", 1, ffirst_samples), ("fewer", 1, ffewer), ("sorted_apart", 2, fsorted_apart), ("idle", 1, fidle), ("_law_kept", 2, f_law_kept), ("sorted_by", 2, fsorted_by), ("_law_letters", 0, f_law_letters), ("samples", 1, fsamples), ("_law_many", 4, f_law_many)], mdC⟩
def bflaw : Ss := (.cons (.set 1 false (.call 0 (.cons (.var 0) (.cons (.con (.int 80)) .nil)))) (.cons (.set 2 false (.call 1 (.cons (.var 1) .nil))) (.cons (.set 3 false (.call 2 (.cons (.var 2) .nil))) (.cons (.set 4 false (.op .mul (.op .mul (.op .mul (.bi .len (.cons (.ix (.var 3) (.con (.int 0))) .nil)) (.bi .len (.cons (.ix (.var 3) (.con (.int 1))) .nil))) (.bi .len (.cons (.ix (.var 3) (.con (.int 2))) .nil))) (.bi .len (.cons (.ix (.var 3) (.con (.int 3))) .nil)))) (.cons (.ite (.op (.cm .gt) (.var 4) (.con (.int 5000))) (.cons (.ite (.or (.op (.is true) (.call 4 (.cons (.var 2) .nil)) (.con .non)) (.not (.call 3 (.cons (.var 2) .nil)))) (.cons (.ret (.con (.bl false))) .nil) .nil) .nil) (.cons (.set 6 false (.call 5 (.cons (.var 3) .nil))) (.cons (.set 7 false (.call 4 (.cons (.var 2) .nil))) (.cons (.ite (.or (.op (.is false) (.var 7) (.con .non)) (.op .ne (.bi .list (.cons (.var 7) .nil)) (.var 6))) (.cons (.ret (.con (.bl false))) .nil) .nil) (.cons (.set 8 false (.lc (.call 6 (.cons (.var 2) (.cons (.var 16) .nil))) [16] (.nm 16) (.of (.var 6)) .no)) (.cons (.set 9 false (.bi .tuple (.cons (.lc (.ite (.op (.inn false) (.var 10) (.var 8)) (.ix (.var 6) (.mt .index (.var 8) (.var 10))) (.con .non)) [10] (.nm 10) (.rng (.cons (.bi .len (.cons (.var 2) .nil)) .nil)) .no) .nil))) (.cons (.ite (.or (.op .ne (.call 8 (.cons (.var 2) .nil)) (.var 9)) (.op (.is true) (.call 7 (.cons (.var 2) (.cons (.var 9) .nil))) (.con .non))) (.cons (.ret (.con (.bl false))) .nil) .nil) (.cons (.ite (.op (.cm .lt) (.var 4) (.con (.int 700))) (.cons (.set 14 false (.lst .nil)) (.cons (.for (.nm 10) (.rng (.cons (.bi .len (.cons (.var 2) .nil)) .nil)) (.cons (.set 17 false (.op .add (.sl (.var 2) .no (.so (.var 10))) (.sl (.var 2) (.so (.op .add (.var 10) (.con (.int 1)))) .no))) (.cons (.set 18 false (.con (.bl true))) (.cons (.for (.nm 19) (.rng (.cons (.bi .len (.cons (.var 6) .nil)) .nil)) (.cons (.ite (.op .eq (.ix (.var 8) (.var 19)) (.var 10)) (.cons (.set 21 false (.call 6 (.cons (.var 17) (.cons (.ix (.var 6) (.var 19)) .nil)))) (.cons (.set 18 false (.and (.var 18) (.and (.op (.is true) (.var 21) (.con .non)) (.op .eq (.ix (.ix (.var 17) (.var 21)) (.con (.int 1))) (.ix (.ix (.var 2) (.var 10)) (.con (.int 1))))))) .nil)) .nil) .nil)) (.cons (.set 14 false (.op .add (.var 14) (.ite (.var 18) (.lst (.cons (.var 10) .nil)) (.lst .nil)))) .nil))))) (.cons (.set 15 false (.call 9 (.cons (.var 2) .nil))) (.cons (.ite (.or (.op .ne (.call 11 (.cons (.var 2) .nil)) (.bi .tuple (.cons (.var 14) .nil))) (.or (.op .ne (.call 11 (.cons (.var 15) .nil)) (.tup .nil)) (.op (.is true) (.call 10 (.cons (.var 15) (.cons (.var 2) .nil))) (.con .non)))) (.cons (.ret (.con (.bl false))) .nil) .nil) .nil)))) .nil) (.cons (.for (.nm 10) (.rng (.cons (.con (.int 6)) .nil)) (.cons (.set 16 false (.tup (.cons (.ix (.tup (.cons (.con (.int 0)) (.cons (.con (.int 100000)) (.cons (.con (.int 99999)) (.cons (.con (.int 7)) .nil))))) (.op .mod (.bi .int (.cons (.ix (.var 1) (.op .add (.con (.int 60)) (.var 10))) .nil)) (.con (.int 4)))) (.cons (.ix (.tup (.cons (.con (.str [97])) (.cons (.con (.str [122,122])) (.cons (.con (.str [97,58,98,58,99,58,100])) .nil)))) (.op .mod (.bi .int (.cons (.ix (.var 1) (.op .add (.con (.int 66)) (.var 10))) .nil)) (.con (.int 3)))) .nil)))) (.cons (.set 16 false (.op .add (.var 16) (.tup (.cons (.ix (.tup (.cons (.op .pow (.con (.int 10)) (.con (.int 15))) (.cons (.op .sub (.con (.int 0)) (.op .pow (.con (.int 10)) (.con (.int 15)))) (.cons (.con (.int 0)) .nil)))) (.op .mod (.bi .int (.cons (.ix (.var 1) (.op .add (.con (.int 72)) (.var 10))) .nil)) (.con (.int 3)))) (.cons (.ix (.tup (.cons (.con (.str [])) (.cons (.con (.str [120])) (.cons (.con (.str [114,101,110,116,32,120])) .nil)))) (.op .mod (.op .fdiv (.bi .int (.cons (.ix (.var 1) (.op .add (.con (.int 60)) (.var 10))) .nil)) (.con (.int 4))) (.con (.int 3)))) .nil))))) (.cons (.ite (.or (.op .ne (.call 13 (.cons (.var 2) (.cons (.var 16) .nil))) (.call 6 (.cons (.var 2) (.cons (.var 16) .nil)))) (.op (.inn true) (.call 12 (.cons (.var 2) (.cons (.var 16) .nil))) (.lc (.call 12 (.cons (.var 2) (.cons (.var 22) .nil))) [22] (.nm 22) (.of (.var 6)) .no))) (.cons (.ret (.con (.bl false))) .nil) .nil) .nil)))) .nil))))))))) (.cons (.set 5 false (.bi .tuple (.cons (.lc (.tup (.cons (.bi .tuple (.cons (.lc (.tup (.cons (.con (.str [110,111,116])) (.cons (.var 23) .nil))) [23] (.nm 23) (.of (.sl (.call 14 .nil) (.so (.var 10)) (.so (.op .add (.var 10) (.con (.int 6)))))) .no) .nil)) (.cons (.con (.str [116])) .nil))) [10] (.nm 10) (.rng (.cons (.con (.int 0)) (.cons (.con (.int 26)) (.cons (.con (.int 6)) .nil)))) .no) .nil))) (.cons (.ite (.op .ne (.call 15 (.cons (.var 5) .nil)) (.bi .tuple (.cons (.lc (.tup (.cons (.con (.int 0)) (.cons (.var 20) (.cons (.op .sub (.con (.int 0)) (.op .pow (.con (.int 10)) (.con (.int 15)))) (.cons (.con (.str [])) .nil))))) [20] (.nm 20) (.of (.bi .sorted (.cons (.op .add (.bi .list (.cons (.call 14 .nil) .nil)) (.lst (.cons (.con (.str [97,97])) .nil))) .nil))) .no) .nil))) (.cons (.ret (.con (.bl false))) .nil) .nil) (.cons (.for (.tp [(.nm 11), (.nm 12)]) (.of (.lst (.cons (.tup (.cons (.tup (.cons (.con (.int 10)) (.cons (.con (.int 10)) (.cons (.con (.int 25)) (.cons (.con (.int 1)) .nil))))) (.cons (.con (.bl true)) .nil))) (.cons (.tup (.cons (.tup (.cons (.con (.int 5)) (.cons (.con (.int 5)) (.cons (.con (.int 25)) (.cons (.con (.int 3)) .nil))))) (.cons (.con (.bl true)) .nil))) (.cons (.tup (.cons (.tup (.cons (.con (.int 10)) (.cons (.con (.int 11)) (.cons (.con (.int 23)) (.cons (.con (.int 1)) .nil))))) (.cons (.con (.bl false)) .nil))) (.cons (.tup (.cons (.tup (.cons (.con (.int 9)) (.cons (.con (.int 9)) (.cons (.con (.int 9)) (.cons (.con (.int 3)) .nil))))) (.cons (.con (.bl false)) .nil))) (.cons (.tup (.cons (.tup (.cons (.con (.int 10)) (.cons (.con (.int 10)) (.cons (.con (.int 10)) (.cons (.con (.int 2)) .nil))))) (.cons (.con (.bl true)) .nil))) .nil))))))) (.cons (.set 13 false (.call 16 (.cons (.ix (.var 11) (.con (.int 0))) (.cons (.ix (.var 11) (.con (.int 1))) (.cons (.ix (.var 11) (.con (.int 2))) (.cons (.ix (.var 11) (.con (.int 3))) .nil)))))) (.cons (.set 14 false (.op .mul (.op .mul (.op .mul (.ix (.var 11) (.con (.int 0))) (.ix (.var 11) (.con (.int 1)))) (.ix (.var 11) (.con (.int 2)))) (.ix (.tup (.cons (.con (.int 1)) (.cons (.con (.int 2)) (.cons (.con (.int 4)) (.cons (.con (.int 8)) .nil))))) (.ix (.var 11) (.con (.int 3)))))) (.cons (.set 7 false (.call 4 (.cons (.var 13) .nil))) (.cons (.ite (.or (.op .ne (.op (.cm .le) (.var 14) (.con (.int 5000))) (.var 12)) (.or (.op .ne (.op (.is true) (.var 7) (.con .non)) (.var 12)) (.and (.op (.is true) (.var 7) (.con .non)) (.op .ne (.bi .len (.cons (.var 7) .nil)) (.var 14))))) (.cons (.ret (.con (.bl false))) .nil) .nil) .nil))))) (.cons (.ret (.con (.bl true))) .nil)))))))))
def flaw : List D → Res (Mo × D) := runF tflaw xsC 24 bflaw

theorem sc_is_of : FnScope Nf_is_of ["value", "signs", "most"] (defScope (top 15)) := ⟨rfl, rfl, rfl, by decide +kernel, rfl, by decide +kernel, by decide +kernel⟩
theorem ck_is_of : chkSs xsC bf_is_of ⟨tf_is_of, Nf_is_of, defScope (top 15), true⟩ (defBody (top 15)) = true := by decide +kernel
theorem scis_account : FnScope Nfis_account ["value"] (defScope (top 16)) := ⟨rfl, rfl, rfl, by decide +kernel, rfl, by decide +kernel, by decide +kernel⟩
theorem ckis_account : chkSs xsC bfis_account ⟨tfis_account, Nfis_account, defScope (top 16), true⟩ (defBody (top 16)) = true := by decide +kernel
theorem scis_currency : FnScope Nfis_currency ["value"] (defScope (top 17)) := ⟨rfl, rfl, rfl, by decide +kernel, rfl, by decide +kernel, by decide +kernel⟩
theorem ckis_currency : chkSs xsC bfis_currency ⟨tfis_currency, Nfis_currency, defScope (top 17), true⟩ (defBody (top 17)) = true := by decide +kernel
theorem scis_under : FnScope Nfis_under ["account", "other"] (defScope (top 18)) := ⟨rfl, rfl, rfl, by decide +kernel, rfl, by decide +kernel, by decide +kernel⟩
theorem ckis_under : chkSs xsC bfis_under ⟨tfis_under, Nfis_under, defScope (top 18), true⟩ (defBody (top 18)) = true := by decide +kernel
theorem scis_whole : FnScope Nfis_whole ["value", "least", "most"] (defScope (top 19)) := ⟨rfl, rfl, rfl, by decide +kernel, rfl, by decide +kernel, by decide +kernel⟩
theorem ckis_whole : chkSs xsC bfis_whole ⟨tfis_whole, Nfis_whole, defScope (top 19), true⟩ (defBody (top 19)) = true := by decide +kernel
theorem scis_amount : FnScope Nfis_amount ["value"] (defScope (top 20)) := ⟨rfl, rfl, rfl, by decide +kernel, rfl, by decide +kernel, by decide +kernel⟩
theorem ckis_amount : chkSs xsC bfis_amount ⟨tfis_amount, Nfis_amount, defScope (top 20), true⟩ (defBody (top 20)) = true := by decide +kernel
theorem scis_day : FnScope Nfis_day ["value"] (defScope (top 21)) := ⟨rfl, rfl, rfl, by decide +kernel, rfl, by decide +kernel, by decide +kernel⟩
theorem ckis_day : chkSs xsC bfis_day ⟨tfis_day, Nfis_day, defScope (top 21), true⟩ (defBody (top 21)) = true := by decide +kernel
theorem scare_words : FnScope Nfare_words ["value"] (defScope (top 22)) := ⟨rfl, rfl, rfl, by decide +kernel, rfl, by decide +kernel, by decide +kernel⟩
theorem ckare_words : chkSs xsC bfare_words ⟨tfare_words, Nfare_words, defScope (top 22), true⟩ (defBody (top 22)) = true := by decide +kernel
theorem sc_is_told : FnScope Nf_is_told ["kind", "value"] (defScope (top 25)) := ⟨rfl, rfl, rfl, by decide +kernel, rfl, by decide +kernel, by decide +kernel⟩
theorem ck_is_told : chkSs xsC bf_is_told ⟨tf_is_told, Nf_is_told, defScope (top 25), true⟩ (defBody (top 25)) = true := by decide +kernel
theorem scis_condition : FnScope Nfis_condition ["value"] (defScope (top 26)) := ⟨rfl, rfl, rfl, by decide +kernel, rfl, by decide +kernel, by decide +kernel⟩
theorem ckis_condition : chkSs xsC bfis_condition ⟨tfis_condition, Nfis_condition, defScope (top 26), true⟩ (defBody (top 26)) = true := by decide +kernel
theorem scis_kept : FnScope Nfis_kept ["row", "condition"] (defScope (top 27)) := ⟨rfl, rfl, rfl, by decide +kernel, rfl, by decide +kernel, by decide +kernel⟩
theorem ckis_kept : chkSs xsC bfis_kept ⟨tfis_kept, Nfis_kept, defScope (top 27), true⟩ (defBody (top 27)) = true := by decide +kernel
theorem sc_is_rule : FnScope Nf_is_rule ["value"] (defScope (top 33)) := ⟨rfl, rfl, rfl, by decide +kernel, rfl, by decide +kernel, by decide +kernel⟩
theorem ck_is_rule : chkSs xsC bf_is_rule ⟨tf_is_rule, Nf_is_rule, defScope (top 33), true⟩ (defBody (top 33)) = true := by decide +kernel
theorem scare_rules : FnScope Nfare_rules ["value"] (defScope (top 34)) := ⟨rfl, rfl, rfl, by decide +kernel, rfl, by decide +kernel, by decide +kernel⟩
theorem ckare_rules : chkSs xsC bfare_rules ⟨tfare_rules, Nfare_rules, defScope (top 34), true⟩ (defBody (top 34)) = true := by decide +kernel
theorem sccheck_rules : FnScope Nfcheck_rules ["values"] (defScope (top 35)) := ⟨rfl, rfl, rfl, by decide +kernel, rfl, by decide +kernel, by decide +kernel⟩
theorem ckcheck_rules : chkSs xsC bfcheck_rules ⟨tfcheck_rules, Nfcheck_rules, defScope (top 35), true⟩ (defBody (top 35)) = true := by decide +kernel
theorem scis_bank_row : FnScope Nfis_bank_row ["value"] (defScope (top 36)) := ⟨rfl, rfl, rfl, by decide +kernel, rfl, by decide +kernel, by decide +kernel⟩
theorem ckis_bank_row : chkSs xsC bfis_bank_row ⟨tfis_bank_row, Nfis_bank_row, defScope (top 36), true⟩ (defBody (top 36)) = true := by decide +kernel
theorem sc_as_row : FnScope Nf_as_row ["row"] (defScope (top 37)) := ⟨rfl, rfl, rfl, by decide +kernel, rfl, by decide +kernel, by decide +kernel⟩
theorem ck_as_row : chkSs xsC bf_as_row ⟨tf_as_row, Nf_as_row, defScope (top 37), true⟩ (defBody (top 37)) = true := by decide +kernel
theorem scfound_rule : FnScope Nffound_rule ["rules", "row"] (defScope (top 38)) := ⟨rfl, rfl, rfl, by decide +kernel, rfl, by decide +kernel, by decide +kernel⟩
theorem ckfound_rule : chkSs xsC bffound_rule ⟨tffound_rule, Nffound_rule, defScope (top 38), true⟩ (defBody (top 38)) = true := by decide +kernel
theorem scsorted_by : FnScope Nfsorted_by ["rules", "row"] (defScope (top 39)) := ⟨rfl, rfl, rfl, by decide +kernel, rfl, by decide +kernel, by decide +kernel⟩
theorem cksorted_by : chkSs xsC bfsorted_by ⟨tfsorted_by, Nfsorted_by, defScope (top 39), true⟩ (defBody (top 39)) = true := by decide +kernel
theorem sc_told : FnScope Nf_told ["rules", "word"] (defScope (top 40)) := ⟨rfl, rfl, rfl, by decide +kernel, rfl, by decide +kernel, by decide +kernel⟩
theorem ck_told : chkSs xsC bf_told ⟨tf_told, Nf_told, defScope (top 40), true⟩ (defBody (top 40)) = true := by decide +kernel
theorem sc_days : FnScope Nf_days ["rules"] (defScope (top 41)) := ⟨rfl, rfl, rfl, by decide +kernel, rfl, by decide +kernel, by decide +kernel⟩
theorem ck_days : chkSs xsC bf_days ⟨tf_days, Nf_days, defScope (top 41), true⟩ (defBody (top 41)) = true := by decide +kernel
theorem sc_amounts : FnScope Nf_amounts ["rules"] (defScope (top 42)) := ⟨rfl, rfl, rfl, by decide +kernel, rfl, by decide +kernel, by decide +kernel⟩
theorem ck_amounts : chkSs xsC bf_amounts ⟨tf_amounts, Nf_amounts, defScope (top 42), true⟩ (defBody (top 42)) = true := by decide +kernel
theorem sc_accounts : FnScope Nf_accounts ["rules"] (defScope (top 43)) := ⟨rfl, rfl, rfl, by decide +kernel, rfl, by decide +kernel, by decide +kernel⟩
theorem ck_accounts : chkSs xsC bf_accounts ⟨tf_accounts, Nf_accounts, defScope (top 43), true⟩ (defBody (top 43)) = true := by decide +kernel
theorem sc_words : FnScope Nf_words ["rules"] (defScope (top 44)) := ⟨rfl, rfl, rfl, by decide +kernel, rfl, by decide +kernel, by decide +kernel⟩
theorem ck_words : chkSs xsC bf_words ⟨tf_words, Nf_words, defScope (top 44), true⟩ (defBody (top 44)) = true := by decide +kernel
theorem scfound_samples : FnScope Nffound_samples ["rules"] (defScope (top 45)) := ⟨rfl, rfl, rfl, by decide +kernel, rfl, by decide +kernel, by decide +kernel⟩
theorem ckfound_samples : chkSs xsC bffound_samples ⟨tffound_samples, Nffound_samples, defScope (top 45), true⟩ (defBody (top 45)) = true := by decide +kernel
theorem scsamples : FnScope Nfsamples ["rules"] (defScope (top 46)) := ⟨rfl, rfl, rfl, by decide +kernel, rfl, by decide +kernel, by decide +kernel⟩
theorem cksamples : chkSs xsC bfsamples ⟨tfsamples, Nfsamples, defScope (top 46), true⟩ (defBody (top 46)) = true := by decide +kernel
theorem scfirst_samples : FnScope Nffirst_samples ["rules"] (defScope (top 47)) := ⟨rfl, rfl, rfl, by decide +kernel, rfl, by decide +kernel, by decide +kernel⟩
theorem ckfirst_samples : chkSs xsC bffirst_samples ⟨tffirst_samples, Nffirst_samples, defScope (top 47), true⟩ (defBody (top 47)) = true := by decide +kernel
theorem scsamples_fault : FnScope Nfsamples_fault ["rules", "rows"] (defScope (top 48)) := ⟨rfl, rfl, rfl, by decide +kernel, rfl, by decide +kernel, by decide +kernel⟩
theorem cksamples_fault : chkSs xsC bfsamples_fault ⟨tfsamples_fault, Nfsamples_fault, defScope (top 48), true⟩ (defBody (top 48)) = true := by decide +kernel
theorem sc_target : FnScope Nf_target ["rules", "row"] (defScope (top 49)) := ⟨rfl, rfl, rfl, by decide +kernel, rfl, by decide +kernel, by decide +kernel⟩
theorem ck_target : chkSs xsC bf_target ⟨tf_target, Nf_target, defScope (top 49), true⟩ (defBody (top 49)) = true := by decide +kernel
theorem sc_apart : FnScope Nf_apart ["rules", "other"] (defScope (top 50)) := ⟨rfl, rfl, rfl, by decide +kernel, rfl, by decide +kernel, by decide +kernel⟩
theorem ck_apart : chkSs xsC bf_apart ⟨tf_apart, Nf_apart, defScope (top 50), true⟩ (defBody (top 50)) = true := by decide +kernel
theorem scsorted_apart : FnScope Nfsorted_apart ["rules", "other"] (defScope (top 51)) := ⟨rfl, rfl, rfl, by decide +kernel, rfl, by decide +kernel, by decide +kernel⟩
theorem cksorted_apart : chkSs xsC bfsorted_apart ⟨tfsorted_apart, Nfsorted_apart, defScope (top 51), true⟩ (defBody (top 51)) = true := by decide +kernel
theorem sc_without : FnScope Nf_without ["rules", "number"] (defScope (top 52)) := ⟨rfl, rfl, rfl, by decide +kernel, rfl, by decide +kernel, by decide +kernel⟩
theorem ck_without : chkSs xsC bf_without ⟨tf_without, Nf_without, defScope (top 52), true⟩ (defBody (top 52)) = true := by decide +kernel
theorem scidle : FnScope Nfidle ["rules"] (defScope (top 53)) := ⟨rfl, rfl, rfl, by decide +kernel, rfl, by decide +kernel, by decide +kernel⟩
theorem ckidle : chkSs xsC bfidle ⟨tfidle, Nfidle, defScope (top 53), true⟩ (defBody (top 53)) = true := by decide +kernel
theorem scfewer : FnScope Nffewer ["rules"] (defScope (top 54)) := ⟨rfl, rfl, rfl, by decide +kernel, rfl, by decide +kernel, by decide +kernel⟩
theorem ckfewer : chkSs xsC bffewer ⟨tffewer, Nffewer, defScope (top 54), true⟩ (defBody (top 54)) = true := by decide +kernel
theorem sc_law_draws : FnScope Nf_law_draws ["script", "many"] (defScope (top 56)) := ⟨rfl, rfl, rfl, by decide +kernel, rfl, by decide +kernel, by decide +kernel⟩
theorem ck_law_draws : chkSs xsC bf_law_draws ⟨tf_law_draws, Nf_law_draws, defScope (top 56), true⟩ (defBody (top 56)) = true := by decide +kernel
theorem sc_law_letters : FnScope Nf_law_letters [] (defScope (top 57)) := ⟨rfl, rfl, rfl, by decide +kernel, rfl, by decide +kernel, by decide +kernel⟩
theorem ck_law_letters : chkSs xsC bf_law_letters ⟨tf_law_letters, Nf_law_letters, defScope (top 57), true⟩ (defBody (top 57)) = true := by decide +kernel
theorem sc_law_keeps : FnScope Nf_law_keeps ["row", "word", "told"] (defScope (top 58)) := ⟨rfl, rfl, rfl, by decide +kernel, rfl, by decide +kernel, by decide +kernel⟩
theorem ck_law_keeps : chkSs xsC bf_law_keeps ⟨tf_law_keeps, Nf_law_keeps, defScope (top 58), true⟩ (defBody (top 58)) = true := by decide +kernel
theorem sc_law_told : FnScope Nf_law_told ["rules", "word"] (defScope (top 59)) := ⟨rfl, rfl, rfl, by decide +kernel, rfl, by decide +kernel, by decide +kernel⟩
theorem ck_law_told : chkSs xsC bf_law_told ⟨tf_law_told, Nf_law_told, defScope (top 59), true⟩ (defBody (top 59)) = true := by decide +kernel
theorem sc_law_texts : FnScope Nf_law_texts ["words"] (defScope (top 60)) := ⟨rfl, rfl, rfl, by decide +kernel, rfl, by decide +kernel, by decide +kernel⟩
theorem ck_law_texts : chkSs xsC bf_law_texts ⟨tf_law_texts, Nf_law_texts, defScope (top 60), true⟩ (defBody (top 60)) = true := by decide +kernel
theorem sc_law_parts : FnScope Nf_law_parts ["rules"] (defScope (top 61)) := ⟨rfl, rfl, rfl, by decide +kernel, rfl, by decide +kernel, by decide +kernel⟩
theorem ck_law_parts : chkSs xsC bf_law_parts ⟨tf_law_parts, Nf_law_parts, defScope (top 61), true⟩ (defBody (top 61)) = true := by decide +kernel
theorem sc_law_rows : FnScope Nf_law_rows ["parts"] (defScope (top 62)) := ⟨rfl, rfl, rfl, by decide +kernel, rfl, by decide +kernel, by decide +kernel⟩
theorem ck_law_rows : chkSs xsC bf_law_rows ⟨tf_law_rows, Nf_law_rows, defScope (top 62), true⟩ (defBody (top 62)) = true := by decide +kernel
theorem sc_law_first : FnScope Nf_law_first ["rules", "row"] (defScope (top 63)) := ⟨rfl, rfl, rfl, by decide +kernel, rfl, by decide +kernel, by decide +kernel⟩
theorem ck_law_first : chkSs xsC bf_law_first ⟨tf_law_first, Nf_law_first, defScope (top 63), true⟩ (defBody (top 63)) = true := by decide +kernel
theorem sc_law_kept : FnScope Nf_law_kept ["rules", "row"] (defScope (top 64)) := ⟨rfl, rfl, rfl, by decide +kernel, rfl, by decide +kernel, by decide +kernel⟩
theorem ck_law_kept : chkSs xsC bf_law_kept ⟨tf_law_kept, Nf_law_kept, defScope (top 64), true⟩ (defBody (top 64)) = true := by decide +kernel
theorem sc_law_samples : FnScope Nf_law_samples ["rules"] (defScope (top 65)) := ⟨rfl, rfl, rfl, by decide +kernel, rfl, by decide +kernel, by decide +kernel⟩
theorem ck_law_samples : chkSs xsC bf_law_samples ⟨tf_law_samples, Nf_law_samples, defScope (top 65), true⟩ (defBody (top 65)) = true := by decide +kernel
theorem sc_law_rules : FnScope Nf_law_rules ["draws"] (defScope (top 67)) := ⟨rfl, rfl, rfl, by decide +kernel, rfl, by decide +kernel, by decide +kernel⟩
theorem ck_law_rules : chkSs xsC bf_law_rules ⟨tf_law_rules, Nf_law_rules, defScope (top 67), true⟩ (defBody (top 67)) = true := by decide +kernel
theorem sc_law_many : FnScope Nf_law_many ["one", "two", "three", "four"] (defScope (top 68)) := ⟨rfl, rfl, rfl, by decide +kernel, rfl, by decide +kernel, by decide +kernel⟩
theorem ck_law_many : chkSs xsC bf_law_many ⟨tf_law_many, Nf_law_many, defScope (top 68), true⟩ (defBody (top 68)) = true := by decide +kernel
theorem sclaw : FnScope Nflaw ["script"] (defScope (top 69)) := ⟨rfl, rfl, rfl, by decide +kernel, rfl, by decide +kernel, by decide +kernel⟩
theorem cklaw : chkSs xsC bflaw ⟨tflaw, Nflaw, defScope (top 69), true⟩ (defBody (top 69)) = true := by decide +kernel
end K77

set_option Elab.async false
set_option linter.all false
set_option maxRecDepth 100000
set_option maxHeartbeats 0
namespace K77
open PySem PySem.Spec PyProof.Rows L2 Pi
def dd (x : Str) (i : Nat) : He.DefD := ⟨(x, none), x, x, defArgs (top i), defBody (top i), defScope (top i), [], []⟩
def fnC : List He.DefD := [dd "_is_of" 15, dd "is_account" 16, dd "is_currency" 17, dd "is_under" 18, dd "is_whole" 19, dd "is_amount" 20, dd "is_day" 21, dd "are_words" 22, dd "_is_told" 25, dd "is_condition" 26, dd "is_kept" 27, dd "_is_rule" 33, dd "are_rules" 34, dd "check_rules" 35, dd "is_bank_row" 36, dd "_as_row" 37, dd "found_rule" 38, dd "sorted_by" 39, dd "_told" 40, dd "_days" 41, dd "_amounts" 42, dd "_accounts" 43, dd "_words" 44, dd "found_samples" 45, dd "samples" 46, dd "first_samples" 47, dd "samples_fault" 48, dd "_target" 49, dd "_apart" 50, dd "sorted_apart" 51, dd "_without" 52, dd "idle" 53, dd "fewer" 54, dd "_law_draws" 56, dd "_law_letters" 57, dd "_law_keeps" 58, dd "_law_told" 59, dd "_law_texts" 60, dd "_law_parts" 61, dd "_law_rows" 62, dd "_law_first" 63, dd "_law_kept" 64, dd "_law_samples" 65, dd "_law_are_too_many" 66, dd "_law_rules" 67, dd "_law_many" 68, dd "law" 69]
def hd : Hd := ⟨glC, mdC, xsC.ex, fnC⟩
abbrev qv : Program := PySem.W.view R.prog [69]
abbrev hk : PySem.W.Hook := hd.hook 4
abbrev ob (s : PySem.W.SharedT) : AlM := hd.ob 4 s
def loose1 : List PySem.Str := ["BookError", "TooMany", "BadRules", "BadBankRow", "MOST_NAMES", "MOST_SIGNS", "MOST_CAPITALS", "MOST_WORDS", "MOST_DAY", "MOST_AMOUNT", "LETTERS", "CAPITALS", "FIGURES", "_is_of", "is_account", "is_currency", "is_under", "is_whole", "is_amount", "is_day", "are_words", "SORTS", "_is_told", "is_condition", "is_kept"]
def loose2 : List PySem.Str := ["MOST_RULES", "MOST_CONDITIONS", "MOST_SAMPLES", "FORM_WORD", "_is_rule", "are_rules", "check_rules", "is_bank_row", "_as_row", "found_rule", "sorted_by", "_told", "_days", "_amounts", "_accounts", "_words", "found_samples", "samples", "first_samples", "samples_fault", "_target", "_apart", "sorted_apart", "_without", "idle"]
def loose3 : List PySem.Str := ["fewer", "_law_draws", "_law_letters", "_law_keeps", "_law_told", "_law_texts", "_law_parts", "_law_rows", "_law_first", "_law_kept", "_law_samples", "_law_are_too_many", "_law_rules", "_law_many"]
def loose : List PySem.Str := loose1 ++ loose2 ++ loose3

theorem run_f (w : World) : HandSHeadRun.RunEq R qv hk ob 4000 loose (w.withFollow "special-get-raises" false) := by
  intro os
  kernel_rfl
theorem run_t (w : World) : HandSHeadRun.RunEq R qv hk ob 4000 loose (w.withFollow "special-get-raises" true) := by
  intro os
  kernel_rfl
theorem run (w : World) : HandSHeadRun.RunEq R qv hk ob 4000 loose w :=
  PySem.W.byRow2 "special-get-raises" run_f run_t w
end K77

set_option Elab.async false
set_option linter.all false
set_option maxRecDepth 100000
set_option maxHeartbeats 4000000
namespace K77
open PySem PySem.Spec PyProof.Rows L2 Pi
theorem okg : hd.gl.all (fun p => okGl p.2) = true := by decide
theorem okm : hd.md.all (fun p => p.2.all fun q => okGl q.2) = true := by decide
section
variable {w : World} {K : PySem.W.Frag} {hp : Heap} {mg : Str → Option Value} {base : Heap}
theorem bi_is_of (fd : FuncData) (F : FunD K "_is_of" "_is_of" (defArgs (top 15)) (defBody (top 15)) (defScope (top 15)) [] [] (He.ga K "_is_of") fd) : Binds K fd ["value", "signs", "most"] [] :=
  F.bindsN fun _ _ _ _ _ _ us hl => match us, hl with | [_, _, _], _ => rfl
theorem dk_is_of (c : hd.says w K) (X : K.In hp) (G : hp.Ns mainGlobals mg) : DefK R.prog w K mg base 1 "_is_of" 3 f_is_of := c.def_ok X G okg okm 0 (x := "_is_of") (st := top 15) rfl sc_is_of rfl rfl rfl rfl ck_is_of bi_is_of trivial
theorem biis_account (fd : FuncData) (F : FunD K "is_account" "is_account" (defArgs (top 16)) (defBody (top 16)) (defScope (top 16)) [] [] (He.ga K "is_account") fd) : Binds K fd ["value"] [] :=
  F.bindsN fun _ _ _ _ _ _ us hl => match us, hl with | [_], _ => rfl
theorem dkis_account (c : hd.says w K) (X : K.In hp) (G : hp.Ns mainGlobals mg) : DefK R.prog w K mg base 2 "is_account" 1 fis_account := c.def_ok X G okg okm 1 (x := "is_account") (st := top 16) rfl scis_account rfl rfl rfl rfl ckis_account biis_account ⟨(dk_is_of c X G).mono (by decide), trivial⟩
theorem biis_currency (fd : FuncData) (F : FunD K "is_currency" "is_currency" (defArgs (top 17)) (defBody (top 17)) (defScope (top 17)) [] [] (He.ga K "is_currency") fd) : Binds K fd ["value"] [] :=
  F.bindsN fun _ _ _ _ _ _ us hl => match us, hl with | [_], _ => rfl
theorem dkis_currency (c : hd.says w K) (X : K.In hp) (G : hp.Ns mainGlobals mg) : DefK R.prog w K mg base 2 "is_currency" 1 fis_currency := c.def_ok X G okg okm 2 (x := "is_currency") (st := top 17) rfl scis_currency rfl rfl rfl rfl ckis_currency biis_currency ⟨(dk_is_of c X G).mono (by decide), trivial⟩
theorem biis_under (fd : FuncData) (F : FunD K "is_under" "is_under" (defArgs (top 18)) (defBody (top 18)) (defScope (top 18)) [] [] (He.ga K "is_under") fd) : Binds K fd ["account", "other"] [] :=
  F.bindsN fun _ _ _ _ _ _ us hl => match us, hl with | [_, _], _ => rfl
theorem dkis_under (c : hd.says w K) (X : K.In hp) (G : hp.Ns mainGlobals mg) : DefK R.prog w K mg base 1 "is_under" 2 fis_under := c.def_ok X G okg okm 3 (x := "is_under") (st := top 18) rfl scis_under rfl rfl rfl rfl ckis_under biis_under trivial
theorem biis_whole (fd : FuncData) (F : FunD K "is_whole" "is_whole" (defArgs (top 19)) (defBody (top 19)) (defScope (top 19)) [] [] (He.ga K "is_whole") fd) : Binds K fd ["value", "least", "most"] [] :=
  F.bindsN fun _ _ _ _ _ _ us hl => match us, hl with | [_, _, _], _ => rfl
theorem dkis_whole (c : hd.says w K) (X : K.In hp) (G : hp.Ns mainGlobals mg) : DefK R.prog w K mg base 1 "is_whole" 3 fis_whole := c.def_ok X G okg okm 4 (x := "is_whole") (st := top 19) rfl scis_whole rfl rfl rfl rfl ckis_whole biis_whole trivial
theorem biis_amount (fd : FuncData) (F : FunD K "is_amount" "is_amount" (defArgs (top 20)) (defBody (top 20)) (defScope (top 20)) [] [] (He.ga K "is_amount") fd) : Binds K fd ["value"] [] :=
  F.bindsN fun _ _ _ _ _ _ us hl => match us, hl with | [_], _ => rfl
theorem dkis_amount (c : hd.says w K) (X : K.In hp) (G : hp.Ns mainGlobals mg) : DefK R.prog w K mg base 2 "is_amount" 1 fis_amount := c.def_ok X G okg okm 5 (x := "is_amount") (st := top 20) rfl scis_amount rfl rfl rfl rfl ckis_amount biis_amount ⟨(dkis_whole c X G).mono (by decide), trivial⟩
theorem biis_day (fd : FuncData) (F : FunD K "is_day" "is_day" (defArgs (top 21)) (defBody (top 21)) (defScope (top 21)) [] [] (He.ga K "is_day") fd) : Binds K fd ["value"] [] :=
  F.bindsN fun _ _ _ _ _ _ us hl => match us, hl with | [_], _ => rfl
theorem dkis_day (c : hd.says w K) (X : K.In hp) (G : hp.Ns mainGlobals mg) : DefK R.prog w K mg base 2 "is_day" 1 fis_day := c.def_ok X G okg okm 6 (x := "is_day") (st := top 21) rfl scis_day rfl rfl rfl rfl ckis_day biis_day ⟨(dkis_whole c X G).mono (by decide), trivial⟩
theorem biare_words (fd : FuncData) (F : FunD K "are_words" "are_words" (defArgs (top 22)) (defBody (top 22)) (defScope (top 22)) [] [] (He.ga K "are_words") fd) : Binds K fd ["value"] [] :=
  F.bindsN fun _ _ _ _ _ _ us hl => match us, hl with | [_], _ => rfl
theorem dkare_words (c : hd.says w K) (X : K.In hp) (G : hp.Ns mainGlobals mg) : DefK R.prog w K mg base 2 "are_words" 1 fare_words := c.def_ok X G okg okm 7 (x := "are_words") (st := top 22) rfl scare_words rfl rfl rfl rfl ckare_words biare_words ⟨(dk_is_of c X G).mono (by decide), trivial⟩
theorem bi_is_told (fd : FuncData) (F : FunD K "_is_told" "_is_told" (defArgs (top 25)) (defBody (top 25)) (defScope (top 25)) [] [] (He.ga K "_is_told") fd) : Binds K fd ["kind", "value"] [] :=
  F.bindsN fun _ _ _ _ _ _ us hl => match us, hl with | [_, _], _ => rfl
theorem dk_is_told (c : hd.says w K) (X : K.In hp) (G : hp.Ns mainGlobals mg) : DefK R.prog w K mg base 3 "_is_told" 2 f_is_told := c.def_ok X G okg okm 8 (x := "_is_told") (st := top 25) rfl sc_is_told rfl rfl rfl rfl ck_is_told bi_is_told ⟨(dkis_account c X G).mono (by decide), (dkis_day c X G).mono (by decide), (dkis_currency c X G).mono (by decide), (dkis_amount c X G).mono (by decide), trivial⟩
theorem biis_condition (fd : FuncData) (F : FunD K "is_condition" "is_condition" (defArgs (top 26)) (defBody (top 26)) (defScope (top 26)) [] [] (He.ga K "is_condition") fd) : Binds K fd ["value"] [] :=
  F.bindsN fun _ _ _ _ _ _ us hl => match us, hl with | [_], _ => rfl
theorem dkis_condition (c : hd.says w K) (X : K.In hp) (G : hp.Ns mainGlobals mg) : DefK R.prog w K mg base 4 "is_condition" 1 fis_condition := c.def_ok X G okg okm 9 (x := "is_condition") (st := top 26) rfl scis_condition rfl rfl rfl rfl ckis_condition biis_condition ⟨(dk_is_told c X G).mono (by decide), trivial⟩
theorem biis_kept (fd : FuncData) (F : FunD K "is_kept" "is_kept" (defArgs (top 27)) (defBody (top 27)) (defScope (top 27)) [] [] (He.ga K "is_kept") fd) : Binds K fd ["row", "condition"] [] :=
  F.bindsN fun _ _ _ _ _ _ us hl => match us, hl with | [_, _], _ => rfl
theorem dkis_kept (c : hd.says w K) (X : K.In hp) (G : hp.Ns mainGlobals mg) : DefK R.prog w K mg base 2 "is_kept" 2 fis_kept := c.def_ok X G okg okm 10 (x := "is_kept") (st := top 27) rfl scis_kept rfl rfl rfl rfl ckis_kept biis_kept ⟨(dkis_under c X G).mono (by decide), trivial⟩
theorem bi_is_rule (fd : FuncData) (F : FunD K "_is_rule" "_is_rule" (defArgs (top 33)) (defBody (top 33)) (defScope (top 33)) [] [] (He.ga K "_is_rule") fd) : Binds K fd ["value"] [] :=
  F.bindsN fun _ _ _ _ _ _ us hl => match us, hl with | [_], _ => rfl
theorem dk_is_rule (c : hd.says w K) (X : K.In hp) (G : hp.Ns mainGlobals mg) : DefK R.prog w K mg base 5 "_is_rule" 1 f_is_rule := c.def_ok X G okg okm 11 (x := "_is_rule") (st := top 33) rfl sc_is_rule rfl rfl rfl rfl ck_is_rule bi_is_rule ⟨(dkis_account c X G).mono (by decide), (dkis_condition c X G).mono (by decide), trivial⟩
theorem biare_rules (fd : FuncData) (F : FunD K "are_rules" "are_rules" (defArgs (top 34)) (defBody (top 34)) (defScope (top 34)) [] [] (He.ga K "are_rules") fd) : Binds K fd ["value"] [] :=
  F.bindsN fun _ _ _ _ _ _ us hl => match us, hl with | [_], _ => rfl
theorem dkare_rules (c : hd.says w K) (X : K.In hp) (G : hp.Ns mainGlobals mg) : DefK R.prog w K mg base 6 "are_rules" 1 fare_rules := c.def_ok X G okg okm 12 (x := "are_rules") (st := top 34) rfl scare_rules rfl rfl rfl rfl ckare_rules biare_rules ⟨(dk_is_rule c X G).mono (by decide), trivial⟩
theorem bicheck_rules (fd : FuncData) (F : FunD K "check_rules" "check_rules" (defArgs (top 35)) (defBody (top 35)) (defScope (top 35)) [] [] (He.ga K "check_rules") fd) : Binds K fd ["values"] [] :=
  F.bindsN fun _ _ _ _ _ _ us hl => match us, hl with | [_], _ => rfl
theorem dkcheck_rules (c : hd.says w K) (X : K.In hp) (G : hp.Ns mainGlobals mg) : DefK R.prog w K mg base 7 "check_rules" 1 fcheck_rules := c.def_ok X G okg okm 13 (x := "check_rules") (st := top 35) rfl sccheck_rules rfl rfl rfl rfl ckcheck_rules bicheck_rules ⟨(dkare_rules c X G).mono (by decide), trivial⟩
theorem biis_bank_row (fd : FuncData) (F : FunD K "is_bank_row" "is_bank_row" (defArgs (top 36)) (defBody (top 36)) (defScope (top 36)) [] [] (He.ga K "is_bank_row") fd) : Binds K fd ["value"] [] :=
  F.bindsN fun _ _ _ _ _ _ us hl => match us, hl with | [_], _ => rfl
theorem dkis_bank_row (c : hd.says w K) (X : K.In hp) (G : hp.Ns mainGlobals mg) : DefK R.prog w K mg base 3 "is_bank_row" 1 fis_bank_row := c.def_ok X G okg okm 14 (x := "is_bank_row") (st := top 36) rfl scis_bank_row rfl rfl rfl rfl ckis_bank_row biis_bank_row ⟨(dkis_account c X G).mono (by decide), (dkis_day c X G).mono (by decide), (dkare_words c X G).mono (by decide), (dkis_amount c X G).mono (by decide), trivial⟩
theorem bi_as_row (fd : FuncData) (F : FunD K "_as_row" "_as_row" (defArgs (top 37)) (defBody (top 37)) (defScope (top 37)) [] [] (He.ga K "_as_row") fd) : Binds K fd ["row"] [] :=
  F.bindsN fun _ _ _ _ _ _ us hl => match us, hl with | [_], _ => rfl
theorem dk_as_row (c : hd.says w K) (X : K.In hp) (G : hp.Ns mainGlobals mg) : DefK R.prog w K mg base 1 "_as_row" 1 f_as_row := c.def_ok X G okg okm 15 (x := "_as_row") (st := top 37) rfl sc_as_row rfl rfl rfl rfl ck_as_row bi_as_row trivial
theorem bifound_rule (fd : FuncData) (F : FunD K "found_rule" "found_rule" (defArgs (top 38)) (defBody (top 38)) (defScope (top 38)) [] [] (He.ga K "found_rule") fd) : Binds K fd ["rules", "row"] [] :=
  F.bindsN fun _ _ _ _ _ _ us hl => match us, hl with | [_, _], _ => rfl
theorem dkfound_rule (c : hd.says w K) (X : K.In hp) (G : hp.Ns mainGlobals mg) : DefK R.prog w K mg base 3 "found_rule" 2 ffound_rule := c.def_ok X G okg okm 16 (x := "found_rule") (st := top 38) rfl scfound_rule rfl rfl rfl rfl ckfound_rule bifound_rule ⟨(dkis_kept c X G).mono (by decide), (dk_as_row c X G).mono (by decide), trivial⟩
theorem bisorted_by (fd : FuncData) (F : FunD K "sorted_by" "sorted_by" (defArgs (top 39)) (defBody (top 39)) (defScope (top 39)) [] [] (He.ga K "sorted_by") fd) : Binds K fd ["rules", "row"] [] :=
  F.bindsN fun _ _ _ _ _ _ us hl => match us, hl with | [_, _], _ => rfl
theorem dksorted_by (c : hd.says w K) (X : K.In hp) (G : hp.Ns mainGlobals mg) : DefK R.prog w K mg base 8 "sorted_by" 2 fsorted_by := c.def_ok X G okg okm 17 (x := "sorted_by") (st := top 39) rfl scsorted_by rfl rfl rfl rfl cksorted_by bisorted_by ⟨(dkcheck_rules c X G).mono (by decide), (dkis_bank_row c X G).mono (by decide), (dkfound_rule c X G).mono (by decide), trivial⟩
theorem bi_told (fd : FuncData) (F : FunD K "_told" "_told" (defArgs (top 40)) (defBody (top 40)) (defScope (top 40)) [] [] (He.ga K "_told") fd) : Binds K fd ["rules", "word"] [] :=
  F.bindsN fun _ _ _ _ _ _ us hl => match us, hl with | [_, _], _ => rfl
theorem dk_told (c : hd.says w K) (X : K.In hp) (G : hp.Ns mainGlobals mg) : DefK R.prog w K mg base 1 "_told" 2 f_told := c.def_ok X G okg okm 18 (x := "_told") (st := top 40) rfl sc_told rfl rfl rfl rfl ck_told bi_told trivial
theorem bi_days (fd : FuncData) (F : FunD K "_days" "_days" (defArgs (top 41)) (defBody (top 41)) (defScope (top 41)) [] [] (He.ga K "_days") fd) : Binds K fd ["rules"] [] :=
  F.bindsN fun _ _ _ _ _ _ us hl => match us, hl with | [_], _ => rfl
theorem dk_days (c : hd.says w K) (X : K.In hp) (G : hp.Ns mainGlobals mg) : DefK R.prog w K mg base 3 "_days" 1 f_days := c.def_ok X G okg okm 19 (x := "_days") (st := top 41) rfl sc_days rfl rfl rfl rfl ck_days bi_days ⟨(dk_told c X G).mono (by decide), (dkis_day c X G).mono (by decide), trivial⟩
theorem bi_amounts (fd : FuncData) (F : FunD K "_amounts" "_amounts" (defArgs (top 42)) (defBody (top 42)) (defScope (top 42)) [] [] (He.ga K "_amounts") fd) : Binds K fd ["rules"] [] :=
  F.bindsN fun _ _ _ _ _ _ us hl => match us, hl with | [_], _ => rfl
theorem dk_amounts (c : hd.says w K) (X : K.In hp) (G : hp.Ns mainGlobals mg) : DefK R.prog w K mg base 3 "_amounts" 1 f_amounts := c.def_ok X G okg okm 20 (x := "_amounts") (st := top 42) rfl sc_amounts rfl rfl rfl rfl ck_amounts bi_amounts ⟨(dk_told c X G).mono (by decide), (dkis_amount c X G).mono (by decide), trivial⟩
theorem bi_accounts (fd : FuncData) (F : FunD K "_accounts" "_accounts" (defArgs (top 43)) (defBody (top 43)) (defScope (top 43)) [] [] (He.ga K "_accounts") fd) : Binds K fd ["rules"] [] :=
  F.bindsN fun _ _ _ _ _ _ us hl => match us, hl with | [_], _ => rfl
theorem dk_accounts (c : hd.says w K) (X : K.In hp) (G : hp.Ns mainGlobals mg) : DefK R.prog w K mg base 2 "_accounts" 1 f_accounts := c.def_ok X G okg okm 21 (x := "_accounts") (st := top 43) rfl sc_accounts rfl rfl rfl rfl ck_accounts bi_accounts ⟨(dk_told c X G).mono (by decide), trivial⟩
theorem bi_words (fd : FuncData) (F : FunD K "_words" "_words" (defArgs (top 44)) (defBody (top 44)) (defScope (top 44)) [] [] (He.ga K "_words") fd) : Binds K fd ["rules"] [] :=
  F.bindsN fun _ _ _ _ _ _ us hl => match us, hl with | [_], _ => rfl
theorem dk_words (c : hd.says w K) (X : K.In hp) (G : hp.Ns mainGlobals mg) : DefK R.prog w K mg base 3 "_words" 1 f_words := c.def_ok X G okg okm 22 (x := "_words") (st := top 44) rfl sc_words rfl rfl rfl rfl ck_words bi_words ⟨(dk_told c X G).mono (by decide), (dkare_words c X G).mono (by decide), trivial⟩
theorem bifound_samples (fd : FuncData) (F : FunD K "found_samples" "found_samples" (defArgs (top 45)) (defBody (top 45)) (defScope (top 45)) [] [] (He.ga K "found_samples") fd) : Binds K fd ["rules"] [] :=
  F.bindsN fun _ _ _ _ _ _ us hl => match us, hl with | [_], _ => rfl
theorem dkfound_samples (c : hd.says w K) (X : K.In hp) (G : hp.Ns mainGlobals mg) : DefK R.prog w K mg base 4 "found_samples" 1 ffound_samples := c.def_ok X G okg okm 23 (x := "found_samples") (st := top 45) rfl scfound_samples rfl rfl rfl rfl ckfound_samples bifound_samples ⟨(dk_days c X G).mono (by decide), (dk_accounts c X G).mono (by decide), (dk_amounts c X G).mono (by decide), (dk_words c X G).mono (by decide), trivial⟩
theorem bisamples (fd : FuncData) (F : FunD K "samples" "samples" (defArgs (top 46)) (defBody (top 46)) (defScope (top 46)) [] [] (He.ga K "samples") fd) : Binds K fd ["rules"] [] :=
  F.bindsN fun _ _ _ _ _ _ us hl => match us, hl with | [_], _ => rfl
theorem dksamples (c : hd.says w K) (X : K.In hp) (G : hp.Ns mainGlobals mg) : DefK R.prog w K mg base 8 "samples" 1 fsamples := c.def_ok X G okg okm 24 (x := "samples") (st := top 46) rfl scsamples rfl rfl rfl rfl cksamples bisamples ⟨(dkcheck_rules c X G).mono (by decide), (dkfound_samples c X G).mono (by decide), trivial⟩
theorem bifirst_samples (fd : FuncData) (F : FunD K "first_samples" "first_samples" (defArgs (top 47)) (defBody (top 47)) (defScope (top 47)) [] [] (He.ga K "first_samples") fd) : Binds K fd ["rules"] [] :=
  F.bindsN fun _ _ _ _ _ _ us hl => match us, hl with | [_], _ => rfl
theorem dkfirst_samples (c : hd.says w K) (X : K.In hp) (G : hp.Ns mainGlobals mg) : DefK R.prog w K mg base 8 "first_samples" 1 ffirst_samples := c.def_ok X G okg okm 25 (x := "first_samples") (st := top 47) rfl scfirst_samples rfl rfl rfl rfl ckfirst_samples bifirst_samples ⟨(dkcheck_rules c X G).mono (by decide), (dkfound_samples c X G).mono (by decide), (dkfound_rule c X G).mono (by decide), trivial⟩
theorem bisamples_fault (fd : FuncData) (F : FunD K "samples_fault" "samples_fault" (defArgs (top 48)) (defBody (top 48)) (defScope (top 48)) [] [] (He.ga K "samples_fault") fd) : Binds K fd ["rules", "rows"] [] :=
  F.bindsN fun _ _ _ _ _ _ us hl => match us, hl with | [_, _], _ => rfl
theorem dksamples_fault (c : hd.says w K) (X : K.In hp) (G : hp.Ns mainGlobals mg) : DefK R.prog w K mg base 8 "samples_fault" 2 fsamples_fault := c.def_ok X G okg okm 26 (x := "samples_fault") (st := top 48) rfl scsamples_fault rfl rfl rfl rfl cksamples_fault bisamples_fault ⟨(dkcheck_rules c X G).mono (by decide), (dkis_bank_row c X G).mono (by decide), (dkfound_rule c X G).mono (by decide), (dkfound_samples c X G).mono (by decide), trivial⟩
theorem bi_target (fd : FuncData) (F : FunD K "_target" "_target" (defArgs (top 49)) (defBody (top 49)) (defScope (top 49)) [] [] (He.ga K "_target") fd) : Binds K fd ["rules", "row"] [] :=
  F.bindsN fun _ _ _ _ _ _ us hl => match us, hl with | [_, _], _ => rfl
theorem dk_target (c : hd.says w K) (X : K.In hp) (G : hp.Ns mainGlobals mg) : DefK R.prog w K mg base 4 "_target" 2 f_target := c.def_ok X G okg okm 27 (x := "_target") (st := top 49) rfl sc_target rfl rfl rfl rfl ck_target bi_target ⟨(dkfound_rule c X G).mono (by decide), trivial⟩
theorem bi_apart (fd : FuncData) (F : FunD K "_apart" "_apart" (defArgs (top 50)) (defBody (top 50)) (defScope (top 50)) [] [] (He.ga K "_apart") fd) : Binds K fd ["rules", "other"] [] :=
  F.bindsN fun _ _ _ _ _ _ us hl => match us, hl with | [_, _], _ => rfl
theorem dk_apart (c : hd.says w K) (X : K.In hp) (G : hp.Ns mainGlobals mg) : DefK R.prog w K mg base 5 "_apart" 2 f_apart := c.def_ok X G okg okm 28 (x := "_apart") (st := top 50) rfl sc_apart rfl rfl rfl rfl ck_apart bi_apart ⟨(dkfound_samples c X G).mono (by decide), (dk_target c X G).mono (by decide), trivial⟩
theorem bisorted_apart (fd : FuncData) (F : FunD K "sorted_apart" "sorted_apart" (defArgs (top 51)) (defBody (top 51)) (defScope (top 51)) [] [] (He.ga K "sorted_apart") fd) : Binds K fd ["rules", "other"] [] :=
  F.bindsN fun _ _ _ _ _ _ us hl => match us, hl with | [_, _], _ => rfl
theorem dksorted_apart (c : hd.says w K) (X : K.In hp) (G : hp.Ns mainGlobals mg) : DefK R.prog w K mg base 8 "sorted_apart" 2 fsorted_apart := c.def_ok X G okg okm 29 (x := "sorted_apart") (st := top 51) rfl scsorted_apart rfl rfl rfl rfl cksorted_apart bisorted_apart ⟨(dkcheck_rules c X G).mono (by decide), (dk_apart c X G).mono (by decide), trivial⟩
theorem bi_without (fd : FuncData) (F : FunD K "_without" "_without" (defArgs (top 52)) (defBody (top 52)) (defScope (top 52)) [] [] (He.ga K "_without") fd) : Binds K fd ["rules", "number"] [] :=
  F.bindsN fun _ _ _ _ _ _ us hl => match us, hl with | [_, _], _ => rfl
theorem dk_without (c : hd.says w K) (X : K.In hp) (G : hp.Ns mainGlobals mg) : DefK R.prog w K mg base 1 "_without" 2 f_without := c.def_ok X G okg okm 30 (x := "_without") (st := top 52) rfl sc_without rfl rfl rfl rfl ck_without bi_without trivial
theorem biidle (fd : FuncData) (F : FunD K "idle" "idle" (defArgs (top 53)) (defBody (top 53)) (defScope (top 53)) [] [] (He.ga K "idle") fd) : Binds K fd ["rules"] [] :=
  F.bindsN fun _ _ _ _ _ _ us hl => match us, hl with | [_], _ => rfl
theorem dkidle (c : hd.says w K) (X : K.In hp) (G : hp.Ns mainGlobals mg) : DefK R.prog w K mg base 8 "idle" 1 fidle := c.def_ok X G okg okm 31 (x := "idle") (st := top 53) rfl scidle rfl rfl rfl rfl ckidle biidle ⟨(dkcheck_rules c X G).mono (by decide), (dk_apart c X G).mono (by decide), (dk_without c X G).mono (by decide), trivial⟩
theorem bifewer (fd : FuncData) (F : FunD K "fewer" "fewer" (defArgs (top 54)) (defBody (top 54)) (defScope (top 54)) [] [] (He.ga K "fewer") fd) : Binds K fd ["rules"] [] :=
  F.bindsN fun _ _ _ _ _ _ us hl => match us, hl with | [_], _ => rfl
theorem dkfewer (c : hd.says w K) (X : K.In hp) (G : hp.Ns mainGlobals mg) : DefK R.prog w K mg base 8 "fewer" 1 ffewer := c.def_ok X G okg okm 32 (x := "fewer") (st := top 54) rfl scfewer rfl rfl rfl rfl ckfewer bifewer ⟨(dkcheck_rules c X G).mono (by decide), (dk_apart c X G).mono (by decide), (dk_without c X G).mono (by decide), trivial⟩
theorem bi_law_draws (fd : FuncData) (F : FunD K "_law_draws" "_law_draws" (defArgs (top 56)) (defBody (top 56)) (defScope (top 56)) [] [] (He.ga K "_law_draws") fd) : Binds K fd ["script", "many"] [] :=
  F.bindsN fun _ _ _ _ _ _ us hl => match us, hl with | [_, _], _ => rfl
theorem dk_law_draws (c : hd.says w K) (X : K.In hp) (G : hp.Ns mainGlobals mg) : DefK R.prog w K mg base 1 "_law_draws" 2 f_law_draws := c.def_ok X G okg okm 33 (x := "_law_draws") (st := top 56) rfl sc_law_draws rfl rfl rfl rfl ck_law_draws bi_law_draws trivial
theorem bi_law_letters (fd : FuncData) (F : FunD K "_law_letters" "_law_letters" (defArgs (top 57)) (defBody (top 57)) (defScope (top 57)) [] [] (He.ga K "_law_letters") fd) : Binds K fd [] [] :=
  F.bindsN fun _ _ _ _ _ _ us hl => match us, hl with | [], _ => rfl
theorem dk_law_letters (c : hd.says w K) (X : K.In hp) (G : hp.Ns mainGlobals mg) : DefK R.prog w K mg base 1 "_law_letters" 0 f_law_letters := c.def_ok X G okg okm 34 (x := "_law_letters") (st := top 57) rfl sc_law_letters rfl rfl rfl rfl ck_law_letters bi_law_letters trivial
theorem bi_law_keeps (fd : FuncData) (F : FunD K "_law_keeps" "_law_keeps" (defArgs (top 58)) (defBody (top 58)) (defScope (top 58)) [] [] (He.ga K "_law_keeps") fd) : Binds K fd ["row", "word", "told"] [] :=
  F.bindsN fun _ _ _ _ _ _ us hl => match us, hl with | [_, _, _], _ => rfl
theorem dk_law_keeps (c : hd.says w K) (X : K.In hp) (G : hp.Ns mainGlobals mg) : DefK R.prog w K mg base 1 "_law_keeps" 3 f_law_keeps := c.def_ok X G okg okm 35 (x := "_law_keeps") (st := top 58) rfl sc_law_keeps rfl rfl rfl rfl ck_law_keeps bi_law_keeps trivial
theorem bi_law_told (fd : FuncData) (F : FunD K "_law_told" "_law_told" (defArgs (top 59)) (defBody (top 59)) (defScope (top 59)) [] [] (He.ga K "_law_told") fd) : Binds K fd ["rules", "word"] [] :=
  F.bindsN fun _ _ _ _ _ _ us hl => match us, hl with | [_, _], _ => rfl
theorem dk_law_told (c : hd.says w K) (X : K.In hp) (G : hp.Ns mainGlobals mg) : DefK R.prog w K mg base 1 "_law_told" 2 f_law_told := c.def_ok X G okg okm 36 (x := "_law_told") (st := top 59) rfl sc_law_told rfl rfl rfl rfl ck_law_told bi_law_told trivial
theorem bi_law_texts (fd : FuncData) (F : FunD K "_law_texts" "_law_texts" (defArgs (top 60)) (defBody (top 60)) (defScope (top 60)) [] [] (He.ga K "_law_texts") fd) : Binds K fd ["words"] [] :=
  F.bindsN fun _ _ _ _ _ _ us hl => match us, hl with | [_], _ => rfl
theorem dk_law_texts (c : hd.says w K) (X : K.In hp) (G : hp.Ns mainGlobals mg) : DefK R.prog w K mg base 1 "_law_texts" 1 f_law_texts := c.def_ok X G okg okm 37 (x := "_law_texts") (st := top 60) rfl sc_law_texts rfl rfl rfl rfl ck_law_texts bi_law_texts trivial
theorem bi_law_parts (fd : FuncData) (F : FunD K "_law_parts" "_law_parts" (defArgs (top 61)) (defBody (top 61)) (defScope (top 61)) [] [] (He.ga K "_law_parts") fd) : Binds K fd ["rules"] [] :=
  F.bindsN fun _ _ _ _ _ _ us hl => match us, hl with | [_], _ => rfl
theorem dk_law_parts (c : hd.says w K) (X : K.In hp) (G : hp.Ns mainGlobals mg) : DefK R.prog w K mg base 2 "_law_parts" 1 f_law_parts := c.def_ok X G okg okm 38 (x := "_law_parts") (st := top 61) rfl sc_law_parts rfl rfl rfl rfl ck_law_parts bi_law_parts ⟨(dk_law_told c X G).mono (by decide), (dk_law_letters c X G).mono (by decide), (dk_law_texts c X G).mono (by decide), trivial⟩
theorem bi_law_rows (fd : FuncData) (F : FunD K "_law_rows" "_law_rows" (defArgs (top 62)) (defBody (top 62)) (defScope (top 62)) [] [] (He.ga K "_law_rows") fd) : Binds K fd ["parts"] [] :=
  F.bindsN fun _ _ _ _ _ _ us hl => match us, hl with | [_], _ => rfl
theorem dk_law_rows (c : hd.says w K) (X : K.In hp) (G : hp.Ns mainGlobals mg) : DefK R.prog w K mg base 1 "_law_rows" 1 f_law_rows := c.def_ok X G okg okm 39 (x := "_law_rows") (st := top 62) rfl sc_law_rows rfl rfl rfl rfl ck_law_rows bi_law_rows trivial
theorem bi_law_first (fd : FuncData) (F : FunD K "_law_first" "_law_first" (defArgs (top 63)) (defBody (top 63)) (defScope (top 63)) [] [] (He.ga K "_law_first") fd) : Binds K fd ["rules", "row"] [] :=
  F.bindsN fun _ _ _ _ _ _ us hl => match us, hl with | [_, _], _ => rfl
theorem dk_law_first (c : hd.says w K) (X : K.In hp) (G : hp.Ns mainGlobals mg) : DefK R.prog w K mg base 2 "_law_first" 2 f_law_first := c.def_ok X G okg okm 40 (x := "_law_first") (st := top 63) rfl sc_law_first rfl rfl rfl rfl ck_law_first bi_law_first ⟨(dk_law_keeps c X G).mono (by decide), trivial⟩
theorem bi_law_kept (fd : FuncData) (F : FunD K "_law_kept" "_law_kept" (defArgs (top 64)) (defBody (top 64)) (defScope (top 64)) [] [] (He.ga K "_law_kept") fd) : Binds K fd ["rules", "row"] [] :=
  F.bindsN fun _ _ _ _ _ _ us hl => match us, hl with | [_, _], _ => rfl
theorem dk_law_kept (c : hd.says w K) (X : K.In hp) (G : hp.Ns mainGlobals mg) : DefK R.prog w K mg base 2 "_law_kept" 2 f_law_kept := c.def_ok X G okg okm 41 (x := "_law_kept") (st := top 64) rfl sc_law_kept rfl rfl rfl rfl ck_law_kept bi_law_kept ⟨(dk_law_keeps c X G).mono (by decide), trivial⟩
theorem bi_law_samples (fd : FuncData) (F : FunD K "_law_samples" "_law_samples" (defArgs (top 65)) (defBody (top 65)) (defScope (top 65)) [] [] (He.ga K "_law_samples") fd) : Binds K fd ["rules"] [] :=
  F.bindsN fun _ _ _ _ _ _ us hl => match us, hl with | [_], _ => rfl
theorem dk_law_samples (c : hd.says w K) (X : K.In hp) (G : hp.Ns mainGlobals mg) : DefK R.prog w K mg base 9 "_law_samples" 1 f_law_samples := c.def_ok X G okg okm 42 (x := "_law_samples") (st := top 65) rfl sc_law_samples rfl rfl rfl rfl ck_law_samples bi_law_samples ⟨(dksamples c X G).mono (by decide), trivial⟩
def Nf_law_are_too_many : List Str := ["rules", "call"]
theorem sc_law_are_too_many : FnScope Nf_law_are_too_many ["rules"] (defScope (top 66)) := ⟨rfl, rfl, rfl, by decide +kernel, rfl, by decide +kernel, by decide +kernel⟩
theorem bi_law_are_too_many (fd : FuncData) (F : FunD K "_law_are_too_many" "_law_are_too_many" (defArgs (top 66)) (defBody (top 66)) (defScope (top 66)) [] [] (He.ga K "_law_are_too_many") fd) : Binds K fd ["rules"] [] :=
  F.bindsN fun _ _ _ _ _ _ us hl => match us, hl with | [_], _ => rfl
theorem dk_law_are_too_many (c : hd.says w K) (X : K.In hp) (G : hp.Ns mainGlobals mg) : DefK R.prog w K mg base 1 "_law_are_too_many" 1 f_law_are_too_many := c.def_st X G 43 rfl sc_law_are_too_many rfl bi_law_are_too_many
theorem bi_law_rules (fd : FuncData) (F : FunD K "_law_rules" "_law_rules" (defArgs (top 67)) (defBody (top 67)) (defScope (top 67)) [] [] (He.ga K "_law_rules") fd) : Binds K fd ["draws"] [] :=
  F.bindsN fun _ _ _ _ _ _ us hl => match us, hl with | [_], _ => rfl
theorem dk_law_rules (c : hd.says w K) (X : K.In hp) (G : hp.Ns mainGlobals mg) : DefK R.prog w K mg base 1 "_law_rules" 1 f_law_rules := c.def_ok X G okg okm 44 (x := "_law_rules") (st := top 67) rfl sc_law_rules rfl rfl rfl rfl ck_law_rules bi_law_rules trivial
theorem bi_law_many (fd : FuncData) (F : FunD K "_law_many" "_law_many" (defArgs (top 68)) (defBody (top 68)) (defScope (top 68)) [] [] (He.ga K "_law_many") fd) : Binds K fd ["one", "two", "three", "four"] [] :=
  F.bindsN fun _ _ _ _ _ _ us hl => match us, hl with | [_, _, _, _], _ => rfl
theorem dk_law_many (c : hd.says w K) (X : K.In hp) (G : hp.Ns mainGlobals mg) : DefK R.prog w K mg base 2 "_law_many" 4 f_law_many := c.def_ok X G okg okm 45 (x := "_law_many") (st := top 68) rfl sc_law_many rfl rfl rfl rfl ck_law_many bi_law_many ⟨(dk_law_letters c X G).mono (by decide), trivial⟩
theorem bilaw (fd : FuncData) (F : FunD K "law" "law" (defArgs (top 69)) (defBody (top 69)) (defScope (top 69)) [] [] (He.ga K "law") fd) : Binds K fd ["script"] [] :=
  F.bindsN fun _ _ _ _ _ _ us hl => match us, hl with | [_], _ => rfl
theorem fklaw (c : hd.says w K) (X : K.In hp) (G : hp.Ns mainGlobals mg) (fd : FuncData) (F : FunD K "law" "law" (defArgs (top 69)) (defBody (top 69)) (defScope (top 69)) [] [] (He.ga K "law") fd) : FnOk R.prog w K mg base (L2.CX R.prog w) 10 (He.ga K "law") fd ["script"] (spP ⟨K, R.prog, w⟩ mg 1 flaw) := c.fn_ok X G okg okm (x := "law") (st := top 69) sclaw rfl rfl rfl rfl cklaw ⟨(dk_law_draws c X G).mono (by decide), (dk_law_rules c X G).mono (by decide), (dk_law_parts c X G).mono (by decide), (dk_law_are_too_many c X G).mono (by decide), (dk_law_samples c X G).mono (by decide), (dk_law_rows c X G).mono (by decide), (dk_law_first c X G).mono (by decide), (dksamples_fault c X G).mono (by decide), (dkfirst_samples c X G).mono (by decide), (dkfewer c X G).mono (by decide), (dksorted_apart c X G).mono (by decide), (dkidle c X G).mono (by decide), (dk_law_kept c X G).mono (by decide), (dksorted_by c X G).mono (by decide), (dk_law_letters c X G).mono (by decide), (dksamples c X G).mono (by decide), (dk_law_many c X G).mono (by decide), trivial⟩ fd F
theorem bslaw (K : PySem.W.Frag) (fd : FuncData) (F : FunD K "law" "law" (defArgs (top 69)) (defBody (top 69)) (defScope (top 69)) [] [] (He.ga K "law") fd) (s : Shared) (v : Value) : BindsTo s fd ⟨[v], []⟩ [("script", v)] :=
  FunD.bindsA (ps := ["script"]) F (fun _ _ _ _ _ _ us hl => match us, hl with | [_], _ => rfl) s [v] rfl
end
end K77

set_option Elab.async false
set_option linter.all false
set_option maxRecDepth 100000
set_option maxHeartbeats 4000000
/-! PiEv: plain laws of the meaning: lists, walks, comprehensions. -/
namespace Pi
open PySem PySem.Spec PyProof.Rows L2
@[simp] theorem rb_ok {α β : Type} (a : α) (f : α → Res β) : (Res.ok a >>= f) = f a := id rfl
@[simp] theorem rb_er {α β : Type} (c : Str) (p : D) (f : α → Res β) : ((Res.er c p : Res α) >>= f) = .er c p := id rfl
@[simp] theorem rb_st {α β : Type} (f : α → Res β) : ((Res.st : Res α) >>= f) = .st := id rfl
@[simp] theorem toB_bl (m : Mo) (b : Bool) : toB (m, .bl b) = .ok b := id rfl
@[simp] theorem atom_non : D.non.atom = true := id rfl
@[simp] theorem atom_bl (b : Bool) : (D.bl b).atom = true := id rfl
@[simp] theorem atom_int (b : Int) : (D.int b).atom = true := id rfl
@[simp] theorem atom_str (b : List Nat) : (D.str b).atom = true := id rfl
@[simp] theorem atom_tup (b : List D) : (D.tup b).atom = true := id rfl
@[simp] theorem atom_lst (b : List D) : (D.lst b).atom = false := id rfl
@[simp] theorem atom_dic (k : Nat) (a b : List D) : (D.dic k a b).atom = false := id rfl
@[simp] theorem atom_scr (b : List Int) : (D.scr b).atom = true := id rfl
@[simp] theorem optR_some {α : Type} (a : α) : optR (some a) = .ok a := id rfl

/-! lists of data -/
section
variable {α : Type}
theorem atoms_map (f : α → D) (h : ∀ x, (f x).atom = true) (l : List α) : (l.map f).all D.atom = true := by
  rw [List.all_map, List.all_eq_true]; exact fun x _ => h x
theorem ints_map : ∀ l : List Int, ints? (l.map D.int) = some l
  | [] => rfl
  | i :: r => by simp [ints?, ints_map r]
theorem bls_map : ∀ l : List Bool, bls? (l.map D.bl) = some l
  | [] => rfl
  | i :: r => by simp [bls?, bls_map r]
theorem strs_map : ∀ l : List (List Nat), strs? (l.map D.str) = some l
  | [] => rfl
  | i :: r => by simp [strs?, strs_map r]
theorem ints_strs : ∀ l : List (List Nat), l ≠ [] → ints? (l.map D.str) = none
  | [], h => absurd rfl h
  | i :: r, _ => rfl
theorem lmo_atoms {l : List D} (h : l.all D.atom = true) : lmo l = .ow := by unfold lmo; rw [if_pos h]
theorem elOk_atoms {m : Mo} {l : List D} (h : l.all D.atom = true) : elOk m l = true := by unfold elOk; rw [h]; simp
theorem elOk_fz {l : List D} : elOk .fz l = true := by unfold elOk; simp
end

/-! comprehensions -/
theorem lcL_map {α : Type} {f : D → Option (Option D)} {enc : α → D} (p : α → Bool) (g : α → D) : ∀ {l : List α}, (∀ x ∈ l, f (enc x) = some (if p x = true then some (g x) else none)) → lcL f (l.map enc) = some ((l.filter p).map g)
  | [], _ => rfl
  | x :: r, h => by
    have h1 := h x List.mem_cons_self
    have ih := lcL_map p g (l := r) fun y hy => h y (List.mem_cons_of_mem _ hy)
    rw [List.map_cons]
    unfold lcL
    rw [h1, ih]
    by_cases hp : p x = true
    · simp [hp]
    · simp [hp]
theorem lcL_all {α : Type} {f : D → Option (Option D)} {enc : α → D} (g : α → D) {l : List α} (h : ∀ x ∈ l, f (enc x) = some (some (g x))) : lcL f (l.map enc) = some (l.map g) := by
  have := lcL_map (f := f) (enc := enc) (fun _ => true) g (l := l) fun x hx => by rw [h x hx]; rfl
  rw [this, List.filter_eq_self.mpr (fun _ _ => rfl)]
theorem lcR_of {f : D → Option (Option D)} {l r : List D} (h : lcL f l = some r) (z : r.length ≤ sizeLine) : lcR f l = .ok (lmo r, .lst r) := by
  unfold lcR; rw [h]; simp only; rw [if_pos z]

/-! walks -/
theorem exFor_fold {α σ : Type} {f : Rho → Res Fl} {t : Tg} {enc : α → D} (I : σ → Rho → Prop) (step : σ → α → σ) : ∀ {xs : List α} {s : σ} {ρ : Rho},
    (∀ s x ρ, x ∈ xs → I s ρ → ∃ ρ1, bindT t (enc x) ρ = some ρ1 ∧ ∃ ρ2, (f ρ1 = .ok (.nx ρ2) ∨ f ρ1 = .ok (.ct ρ2)) ∧ I (step s x) ρ2) → I s ρ →
    ∃ ρ', exFor f t (xs.map enc) ρ = .ok (.nx ρ') ∧ I (xs.foldl step s) ρ'
  | [], s, ρ, _, i => ⟨ρ, rfl, i⟩
  | x :: xs, s, ρ, h, i => by
    obtain ⟨ρ1, e1, ρ2, e2, i2⟩ := h s x ρ List.mem_cons_self i
    obtain ⟨ρ', e3, i3⟩ := exFor_fold I step (xs := xs) (s := step s x) (ρ := ρ2) (fun s y ρ hy => h s y ρ (List.mem_cons_of_mem _ hy)) i2
    refine ⟨ρ', ?_, i3⟩
    rw [List.map_cons]
    unfold exFor
    rw [e1]
    simp only
    rcases e2 with e2 | e2
    · rw [e2]; exact e3
    · rw [e2]; exact e3
/-- with an end that may be raised or returned -/
theorem exFor_find {α : Type} {f : Rho → Res Fl} {t : Tg} {enc : α → D} (I : Rho → Prop) (p : α → Bool) (out : α → Fl) : ∀ {xs : List α} {ρ : Rho},
    (∀ x ρ, x ∈ xs → I ρ → ∃ ρ1, bindT t (enc x) ρ = some ρ1 ∧ (if p x = true then f ρ1 = .ok (out x) ∧ (∃ m d, out x = .rt m d) else ∃ ρ2, (f ρ1 = .ok (.nx ρ2) ∨ f ρ1 = .ok (.ct ρ2)) ∧ I ρ2)) → I ρ →
    (match xs.find? p with
    | some x => exFor f t (xs.map enc) ρ = .ok (out x)
    | none => ∃ ρ', exFor f t (xs.map enc) ρ = .ok (.nx ρ') ∧ I ρ')
  | [], ρ, _, i => ⟨ρ, rfl, i⟩
  | x :: xs, ρ, h, i => by
    obtain ⟨ρ1, e1, q⟩ := h x ρ List.mem_cons_self i
    by_cases hp : p x = true
    · rw [if_pos hp] at q
      obtain ⟨e2, m, d, e3⟩ := q
      rw [List.find?_cons_of_pos hp]
      simp only [List.map_cons]
      unfold exFor
      rw [e1]
      simp only
      rw [e2, e3]
      rfl
    · rw [if_neg hp] at q
      obtain ⟨ρ2, e2, i2⟩ := q
      have ih := exFor_find I p out (xs := xs) (ρ := ρ2) (fun y ρ hy => h y ρ (List.mem_cons_of_mem _ hy)) i2
      rw [List.find?_cons_of_neg hp]
      have e : exFor f t ((x :: xs).map enc) ρ = exFor f t (xs.map enc) ρ2 := by
        rw [List.map_cons]
        conv => lhs; unfold exFor
        rw [e1]
        simp only
        rcases e2 with e2 | e2 <;> rw [e2] <;> rfl
      rw [e]
      exact ih
theorem enumL_map {α : Type} (enc : α → D) : ∀ (l : List α) (k : Nat), enumL (k : Int) (l.map enc) = (l.zipIdx k).map fun p => .tup [.int (p.2 : Nat), enc p.1]
  | [], _ => rfl
  | x :: r, k => by
    have := enumL_map enc r (k + 1)
    rw [List.map_cons, List.zipIdx_cons, List.map_cons]
    unfold enumL
    rw [show ((k : Int) + 1) = ((k + 1 : Nat) : Int) from by omega, this]

/-! dicts as sets -/
/-- the keys, each once, with True behind it -/
abbrev SD (ks : List D) : D := .dic 0 ks (ks.map fun _ => .bl true)
def kins (ks : List D) (k : D) : List D := if kmem ks k = true then ks else ks ++ [k]
theorem zip_true (k : D) : ∀ ks : List D, ((ks.zip (ks.map fun _ => D.bl true)).map fun p => if beqK p.1 k = true then D.bl true else p.2) = ks.map fun _ => D.bl true
  | [] => rfl
  | a :: r => by simp [zip_true k r]
theorem dput_true (ks : List D) (k : D) : dput ks (ks.map fun _ => .bl true) k (.bl true) = (kins ks k, (kins ks k).map fun _ => .bl true) := by
  unfold dput kins
  split
  · rw [zip_true]
  · simp
theorem dputs_true : ∀ (ls ks : List D), dputs ls (ls.map fun _ => .bl true) (ks, ks.map fun _ => .bl true) = (ls.foldl kins ks, (ls.foldl kins ks).map fun _ => .bl true)
  | [], ks => rfl
  | a :: r, ks => by
    rw [List.map_cons]
    unfold dputs
    simp only
    rw [dput_true, dputs_true r]
    rfl
theorem kins_le (ks : List D) (k : D) : (kins ks k).length ≤ ks.length + 1 := by
  unfold kins
  split <;> simp
theorem kinsL_le : ∀ (ls ks : List D), (ls.foldl kins ks).length ≤ ks.length + ls.length
  | [], ks => by simp
  | a :: r, ks => by
    rw [List.foldl_cons, List.length_cons]
    have := kinsL_le r (kins ks a)
    have := kins_le ks a
    omega
/-- the same on natives -/
def nins {α : Type} [DecidableEq α] (ks : List α) (k : α) : List α := if k ∈ ks then ks else ks ++ [k]
theorem nins_mem {α : Type} [DecidableEq α] {ks : List α} {k x : α} : x ∈ nins ks k ↔ x ∈ ks ∨ x = k := by
  unfold nins
  split
  · rename_i h
    exact ⟨.inl, fun q => q.elim id fun e => e ▸ h⟩
  · simp
theorem nins_nodup {α : Type} [DecidableEq α] {ks : List α} {k : α} (h : ks.Nodup) : (nins ks k).Nodup := by
  unfold nins
  split
  · exact h
  · rename_i q
    rw [List.nodup_append]
    exact ⟨h, by simp, fun a ha b hb e => q (by simp at hb; rw [← hb, ← e]; exact ha)⟩
theorem ninsL_mem {α : Type} [DecidableEq α] {x : α} : ∀ {ls ks : List α}, x ∈ ls.foldl nins ks ↔ x ∈ ks ∨ x ∈ ls
  | [], ks => by simp
  | a :: r, ks => by
    rw [List.foldl_cons, ninsL_mem, nins_mem, List.mem_cons, or_assoc]
theorem ninsL_nodup {α : Type} [DecidableEq α] : ∀ {ls ks : List α}, ks.Nodup → (ls.foldl nins ks).Nodup
  | [], ks, h => h
  | a :: r, ks, h => ninsL_nodup (ls := r) (nins_nodup h)
theorem kmem_int (k : Int) : ∀ ks : List Int, kmem (ks.map .int) (.int k) = decide (k ∈ ks)
  | [] => by simp [kmem]
  | a :: r => by
    have ih := kmem_int k r
    unfold kmem at ih ⊢
    rw [List.map_cons, List.any_cons, ih]
    simp only [beqK, List.mem_cons, eq_comm (a := k)]
    by_cases h : a = k <;> simp [h]
theorem kmem_str (k : List Nat) : ∀ ks : List (List Nat), kmem (ks.map .str) (.str k) = decide (k ∈ ks)
  | [] => by simp [kmem]
  | a :: r => by
    have ih := kmem_str k r
    unfold kmem at ih ⊢
    rw [List.map_cons, List.any_cons, ih]
    simp only [beqK, List.mem_cons, eq_comm (a := k)]
    by_cases h : a = k <;> simp [h]
theorem kins_int (ks : List Int) (k : Int) : kins (ks.map .int) (.int k) = (nins ks k).map .int := by
  unfold kins nins
  rw [kmem_int]
  by_cases h : k ∈ ks <;> simp [h]
theorem kins_str (ks : List (List Nat)) (k : List Nat) : kins (ks.map .str) (.str k) = (nins ks k).map .str := by
  unfold kins nins
  rw [kmem_str]
  by_cases h : k ∈ ks <;> simp [h]
theorem kinsL_int : ∀ (ls ks : List Int), (ls.map D.int).foldl kins (ks.map .int) = (ls.foldl nins ks).map .int
  | [], ks => rfl
  | a :: r, ks => by rw [List.map_cons, List.foldl_cons, kins_int, kinsL_int r]; rfl
theorem kinsL_str : ∀ (ls ks : List (List Nat)), (ls.map D.str).foldl kins (ks.map .str) = (ls.foldl nins ks).map .str
  | [], ks => rfl
  | a :: r, ks => by rw [List.map_cons, List.foldl_cons, kins_str, kinsL_str r]; rfl
/-- sorted, when the members are the same -/
theorem srtI_same {a b : List Int} (ha : a.Nodup) (hb : b.Nodup) (h : ∀ x, x ∈ a ↔ x ∈ b) : srtI a = srtI b :=
  srtI_uniq ((srtI_perm a).trans ((List.perm_ext_iff_of_nodup ha hb).mpr h)) (srtI_sorted a)

/-! equality of data -/
section
mutual
/-- plain: no dict, no script; texts of signs; not too deep -/
def D.pl : Nat → D → Bool
  | _, .non => true
  | _, .bl _ => true
  | _, .int _ => true
  | _, .str s => s.all fun c => decide (c < 0x110000)
  | n + 1, .tup ds => D.pls n ds
  | n + 1, .lst ds => D.pls n ds
  | _, _ => false
def D.pls : Nat → List D → Bool
  | _, [] => true
  | n, d :: r => D.pl n d && D.pls n r
end
mutual
theorem pl_py : ∀ (n : Nat) (d : D), d.pl n = true → ∃ p, toPy d = some p ∧ p.canLay0 = true ∧ p.depth ≤ n
  | n, .non, _ => ⟨.none, by simp only [toPy], by simp only [PyData.canLay0], by simp only [PyData.depth]; omega⟩
  | n, .bl b, _ => ⟨.bool b, by simp only [toPy], by simp only [PyData.canLay0], by simp only [PyData.depth]; omega⟩
  | n, .int i, _ => ⟨.int i, by simp only [toPy], by simp only [PyData.canLay0], by simp only [PyData.depth]; omega⟩
  | n, .str s, h => by
    refine ⟨.str (mkS s), by simp only [toPy], ?_, by simp only [PyData.depth]; omega⟩
    unfold D.pl at h
    show PySem.PyData.canLay0 _ = true
    unfold PyData.canLay0 PyData.strOk mkS
    rw [← h]
    simp
  | n + 1, .tup ds, h => by
    obtain ⟨p, e, c, z⟩ := pls_py n ds (by unfold D.pl at h; exact h)
    exact ⟨.tuple p, by simp only [toPy, e, Option.map_some], by unfold PyData.canLay0; exact c, by unfold PyData.depth; omega⟩
  | n + 1, .lst ds, h => by
    obtain ⟨p, e, c, z⟩ := pls_py n ds (by unfold D.pl at h; exact h)
    exact ⟨.list p, by simp only [toPy, e, Option.map_some], by unfold PyData.canLay0; exact c, by unfold PyData.depth; omega⟩
  | 0, .tup ds, h => by unfold D.pl at h; cases h
  | 0, .lst ds, h => by unfold D.pl at h; cases h
  | n, .dic _ _ _, h => by cases n <;> (unfold D.pl at h; cases h)
  | n, .scr _, h => by cases n <;> (unfold D.pl at h; cases h)
theorem pls_py : ∀ (n : Nat) (d : List D), D.pls n d = true → ∃ p, toPys d = some p ∧ PyData.canLayAll0 p = true ∧ PyData.depthAll p ≤ n
  | n, [], _ => ⟨[], by simp only [toPys], by unfold PyData.canLayAll0; rfl, by unfold PyData.depthAll; omega⟩
  | n, d :: r, h => by
    unfold D.pls at h
    rw [Bool.and_eq_true] at h
    obtain ⟨p, e, c, z⟩ := pl_py n d h.1
    obtain ⟨q, e2, c2, z2⟩ := pls_py n r h.2
    exact ⟨p :: q, by simp only [toPys, e, e2, Option.bind_some, Option.map_some], by unfold PyData.canLayAll0; rw [c, c2]; rfl, by unfold PyData.depthAll; omega⟩
end
theorem pl_pyS {n : Nat} {d : D} (h : d.pl n = true) (z : n ≤ 64) : ∃ p, toPyS d = some p ∧ toPy d = some p ∧ p.canLay0 = true := by
  obtain ⟨p, e, c, q⟩ := pl_py n d h
  refine ⟨p, ?_, e, c⟩
  unfold toPyS
  rw [e]
  have : SeqAt.shaped p = true := by unfold SeqAt.shaped; rw [c]; simp; omega
  simp [this]
theorem eqD_refl {d : D} (h : d.pl 64 = true) : eqD d d = some true := by
  obtain ⟨p, e, _, c⟩ := pl_pyS h (Nat.le_refl _)
  unfold eqD
  split
  · simp_all
  · simp_all
  · rw [e]
    simp only
    rw [SeqAt.eqv_refl p c]
theorem pls_of : ∀ {n : Nat} {l : List D}, (∀ d ∈ l, d.pl n = true) → D.pls n l = true
  | n, [], _ => by unfold D.pls; rfl
  | n, d :: r, h => by
    unfold D.pls
    rw [h d List.mem_cons_self, pls_of fun e he => h e (List.mem_cons_of_mem _ he)]
    rfl
theorem pls_toPys : ∀ {l : List D} {q : List PyData}, toPys l = some q → ∀ d ∈ l, ∃ p ∈ q, toPy d = some p
  | [], _, _, d, h => by simp at h
  | a :: r, q, e, d, h => by
    simp only [toPys, Option.bind_eq_some_iff, Option.map_eq_some_iff] at e
    obtain ⟨p, e1, q1, e2, e3⟩ := e
    subst e3
    rcases List.mem_cons.mp h with e | h
    · subst e; exact ⟨p, List.mem_cons_self, e1⟩
    · obtain ⟨p2, h2, e4⟩ := pls_toPys e2 d h
      exact ⟨p2, List.mem_cons_of_mem _ h2, e4⟩
/-- in a list: what stands in it is in it -/
theorem inD_mem {a : D} {l : List D} (h : a.pl 63 = true) (hl : ∀ d ∈ l, d.pl 63 = true) (m : a ∈ l) : inD a (.lst l) = some true := by
  obtain ⟨p, e, e', c⟩ := pl_pyS h (by decide)
  obtain ⟨q, f, f', c2⟩ := pl_pyS (n := 64) (d := .lst l) (by unfold D.pl; exact pls_of hl) (by decide)
  simp only [toPy, Option.map_eq_some_iff] at f'
  obtain ⟨qs, g1, g2⟩ := f'
  subst g2
  have key : (qs.any fun z => PyData.eqv z p) = true := by
    obtain ⟨p2, h2, e2⟩ := pls_toPys g1 a m
    rw [e'] at e2
    cases e2
    exact List.any_eq_true.mpr ⟨p, h2, SeqAt.eqv_refl p c⟩
  have z : inD a (.lst l) = (match toPyS a, toPyS (.lst l) with
    | some p, some (.list qs) => some (qs.any fun z => PyData.eqv z p)
    | _, _ => none) := by
    unfold inD
    split
    · rename_i hh; cases hh
    · rename_i hh; cases hh; rfl
    · rename_i hh; cases hh
    · rename_i h1 h2 h3; first | exact absurd rfl (h1 l) | exact absurd rfl (h2 l) | exact absurd rfl (h3 l)
  rw [z, e, f]
  simp only
  rw [key]
end
end Pi

set_option Elab.async false
set_option linter.all false
set_option maxRecDepth 100000
set_option maxHeartbeats 4000000
/-! PiEv2: the meaning, step by step, as simp rules. -/
namespace Pi
open PySem PySem.Spec PyProof.Rows L2
/-! continuations by name, so that simp opens them only when they are reached -/
section
def opK (o : Op) (T : Tab) (b : E) (ρ : Rho) (x : Mo × D) : Res (Mo × D) := ev T b ρ >>= op2 o.g x
def chK2 (o' : Op) (T : Tab) (c : E) (ρ : Rho) (y : Mo × D) (k : Bool) : Res (Mo × D) := if k = true then ev T c ρ >>= op2 o'.g y else .ok (.fz, .bl false)
def chK1 (o' : Op) (T : Tab) (c : E) (ρ : Rho) (y r : Mo × D) : Res (Mo × D) := toB r >>= chK2 o' T c ρ y
def chK0 (o o' : Op) (T : Tab) (c : E) (ρ : Rho) (x y : Mo × D) : Res (Mo × D) := op2 o.g x y >>= chK1 o' T c ρ y
def chK (o o' : Op) (T : Tab) (b c : E) (ρ : Rho) (x : Mo × D) : Res (Mo × D) := ev T b ρ >>= chK0 o o' T c ρ x
def andB (T : Tab) (b : E) (ρ : Rho) (k : Bool) : Res (Mo × D) := if k = true then ev T b ρ else .ok (.fz, .bl false)
def andK (T : Tab) (b : E) (ρ : Rho) (x : Mo × D) : Res (Mo × D) := toB x >>= andB T b ρ
def orB (T : Tab) (b : E) (ρ : Rho) (k : Bool) : Res (Mo × D) := if k = true then .ok (.fz, .bl true) else ev T b ρ
def orK (T : Tab) (b : E) (ρ : Rho) (x : Mo × D) : Res (Mo × D) := toB x >>= orB T b ρ
def notB (k : Bool) : Res (Mo × D) := .ok (.fz, .bl (!k))
def notK (x : Mo × D) : Res (Mo × D) := toB x >>= notB
def negK (x : Mo × D) : Res (Mo × D) := match x.2 with
    | .int i => .ok (.fz, .int (-i))
    | _ => .st
def iteB (T : Tab) (a b : E) (ρ : Rho) (k : Bool) : Res (Mo × D) := if k = true then ev T a ρ else ev T b ρ
def iteK (T : Tab) (a b : E) (ρ : Rho) (x : Mo × D) : Res (Mo × D) := toB x >>= iteB T a b ρ
def ixK (T : Tab) (b : E) (ρ : Rho) (x : Mo × D) : Res (Mo × D) := ev T b ρ >>= op2 ixG x
def slK3 (x : Mo × D) (l h : Option Int) : Res (Mo × D) := optR (slG x l h)
def slK2 (x : Mo × D) (l : Option Int) (h : Option (Mo × D)) : Res (Mo × D) := intO h >>= slK3 x l
def slK1 (T : Tab) (hi : Eo) (ρ : Rho) (x : Mo × D) (l : Option Int) : Res (Mo × D) := evo T hi ρ >>= slK2 x l
def slK0 (T : Tab) (hi : Eo) (ρ : Rho) (x : Mo × D) (l : Option (Mo × D)) : Res (Mo × D) := intO l >>= slK1 T hi ρ x
def slK (T : Tab) (lo hi : Eo) (ρ : Rho) (x : Mo × D) : Res (Mo × D) := evo T lo ρ >>= slK0 T hi ρ x
def oK {α β : Type} (f : α → Option β) (x : α) : Res β := optR (f x)
def d1B (x y : Mo × D) : Res (Mo × D) := optR (dicG 0 [x.2] [y])
def d1K (T : Tab) (b : E) (ρ : Rho) (x : Mo × D) : Res (Mo × D) := ev T b ρ >>= d1B x
def callK (T : Tab) (f : Nat) (as : List (Mo × D)) : Res (Mo × D) := match T.fn[f]? with
    | some p => callG p.2.2 as
    | none => .st
def mtK (T : Tab) (m : Mt) (a : E) (ρ : Rho) (x : Mo × D) : Res (Mo × D) := if m.rcv x.2 = true then ev T a ρ >>= op2 m.g x else .st
def mdinK (T : Tab) (neg : Bool) (g : Nat) (x : Mo × D) : Res (Mo × D) := match T.md[g]?, x.2 with
    | some p, .str s => .ok (.fz, .bl (if neg then !(slook p.2 s).isSome else (slook p.2 s).isSome))
    | _, _ => .st
def mdixK (T : Tab) (g : Nat) (x : Mo × D) : Res (Mo × D) := match T.md[g]?, x.2 with
    | some p, .str s => optR ((slook p.2 s).map fun d => (.fz, d))
    | _, _ => .st
def lrK0 (x : Option (Mo × D)) (y : Mo × D) : Res (Mo × D) := optR (lrG x y)
def lrK (T : Tab) (hi : E) (ρ : Rho) (x : Option (Mo × D)) : Res (Mo × D) := ev T hi ρ >>= lrK0 x
def someK (x : Mo × D) : Res (Option (Mo × D)) := .ok (some x)
def consB (x : Mo × D) (as : List (Mo × D)) : Res (List (Mo × D)) := .ok (x :: as)
def consK (T : Tab) (es : Es) (ρ : Rho) (x : Mo × D) : Res (List (Mo × D)) := evs T es ρ >>= consB x
def nxK (ρ : Rho) : Res Fl := .ok (.nx ρ)
def setK (ρ : Rho) (i : Nat) (own : Bool) (x : Mo × D) : Res Fl := setV ρ i own x >>= nxK
def asgK (ρ : Rho) (t : Tg) (x : Mo × D) : Res Fl := if x.1 = .fz then (match bindT t x.2 ρ with | some ρ => .ok (.nx ρ) | none => .st) else .st
def parK (ρ : Rho) (is : List (Nat × Bool)) (as : List (Mo × D)) : Res Fl := setVs ρ is as >>= nxK
def augK (ρ : Rho) (i : Nat) (o : Op) (j : Int) (y : Mo × D) : Res Fl := match augG o (.int j) y.2 with | some z => .ok (.nx (ρ.set i (some (false, z)))) | none => .st
def putLK (ρ : Rho) (i : Nat) (ds : List D) : Res Fl := .ok (.nx (putO ρ i (.lst ds)))
def putDK (ρ : Rho) (i : Nat) (d : D) : Res Fl := .ok (.nx (putO ρ i d))
def siL2 (ρ : Rho) (i : Nat) (x : Mo × D) (ds : List D) (k : Mo × D) : Res Fl := lsetG ds k x >>= putLK ρ i
def siL (T : Tab) (ρ : Rho) (i : Nat) (key : E) (x : Mo × D) (ds : List D) : Res Fl := ev T key ρ >>= siL2 ρ i x ds
def siD2 (ρ : Rho) (i : Nat) (x : Mo × D) (d : Nat × List D × List D) (k : Mo × D) : Res Fl := dsetG d.1 d.2.1 d.2.2 k x >>= putDK ρ i
def siD (T : Tab) (ρ : Rho) (i : Nat) (key : E) (x : Mo × D) (d : Nat × List D × List D) : Res Fl := ev T key ρ >>= siD2 ρ i x d
def setIK (T : Tab) (ρ : Rho) (i : Nat) (key : E) (x : Mo × D) : Res Fl := match ρ[i]? with
    | some (some (true, .lst _)) => ownL ρ i >>= siL T ρ i key x
    | some (some (true, .dic _ _ _)) => ownD ρ i >>= siD T ρ i key x
    | _ => .st
def p2B (T : Tab) (j : Nat) (k2 : E) (b : D) (ρ : Rho) : Res Fl := putD (ev T k2) j b ρ >>= nxK
def p2A (T : Tab) (ρ : Rho) (i : Nat) (k1 : E) (j : Nat) (k2 : E) (p : D × D) : Res Fl := putD (ev T k1) i p.1 ρ >>= p2B T j k2 p.2
def put2K (T : Tab) (ρ : Rho) (i : Nat) (k1 : E) (j : Nat) (k2 : E) (x : Mo × D) : Res Fl := two x >>= p2A T ρ i k1 j k2
def xpK (ρ : Rho) (_x : Mo × D) : Res Fl := .ok (.nx ρ)
def appB (ρ : Rho) (i : Nat) (ds : List D) (x : Mo × D) : Res Fl := appG ds x >>= putLK ρ i
def appK (T : Tab) (e : E) (ρ : Rho) (i : Nat) (ds : List D) : Res Fl := ev T e ρ >>= appB ρ i ds
def extB (ρ : Rho) (i : Nat) (ds : List D) (x : Mo × D) : Res Fl := extG ds x >>= putLK ρ i
def extK (T : Tab) (e : E) (ρ : Rho) (i : Nat) (ds : List D) : Res Fl := ev T e ρ >>= extB ρ i ds
def updB (ρ : Rho) (i : Nat) (d : Nat × List D × List D) (x : Mo × D) : Res Fl := updG d.1 d.2.1 d.2.2 x >>= putDK ρ i
def updK (T : Tab) (e : E) (ρ : Rho) (i : Nat) (d : Nat × List D × List D) : Res Fl := ev T e ρ >>= updB ρ i d
def sdB (ρ : Rho) (i : Nat) (d : Nat × List D × List D) (k x : Mo × D) : Res Fl := dsetd d.1 d.2.1 d.2.2 k x >>= putDK ρ i
def sdA (T : Tab) (e : E) (ρ : Rho) (i : Nat) (d : Nat × List D × List D) (k : Mo × D) : Res Fl := ev T e ρ >>= sdB ρ i d k
def sdK (T : Tab) (key e : E) (ρ : Rho) (i : Nat) (d : Nat × List D × List D) : Res Fl := ev T key ρ >>= sdA T e ρ i d
def ifB (T : Tab) (xs : Xs) (a b : Ss) (ρ : Rho) (k : Bool) : Res Fl := if k = true then exs T xs a ρ else exs T xs b ρ
def ifK (T : Tab) (xs : Xs) (a b : Ss) (ρ : Rho) (x : Mo × D) : Res Fl := toB x >>= ifB T xs a b ρ
def forK (T : Tab) (xs : Xs) (t : Tg) (b : Ss) (ρ : Rho) (l : List D) : Res Fl := exFor (fun ρ => exs T xs b ρ) t l ρ
def lcK (T : Tab) (x : E) (vs : List Nat) (tg : Tg) (c : Eo) (ρ : Rho) (l : List D) : Res (Mo × D) := lcR (fun d => lcStep (bindT tg d (wipeR ρ vs)) (fun ρ2 => evc T c ρ2) (fun ρ2 => ev T x ρ2)) l
def dcK (T : Tab) (k x : E) (vs : List Nat) (tg : Tg) (c : Eo) (ρ : Rho) (l : List D) : Res (Mo × D) := dcR (fun d => dcStep (bindT tg d (wipeR ρ vs)) (fun ρ2 => evc T c ρ2) (fun ρ2 => ev T k ρ2) (fun ρ2 => ev T x ρ2)) l
def thenS (T : Tab) (xs : Xs) (r : Ss) (fl : Fl) : Res Fl := match fl with
    | .nx ρ => exs T xs r ρ
    | fl => .ok fl
def endF (fl : Fl) : Res (Mo × D) := match fl with
  | .nx _ => .ok (.fz, .non)
  | .rt m d => .ok (m, d)
  | _ => .st
end
section
variable (T : Tab) (xs : Xs) (ρ : Rho)
@[simp] theorem opK_eq (o : Op) (b : E) (x : Mo × D) : opK o T b ρ x = (ev T b ρ >>= op2 o.g x) := id rfl
@[simp] theorem chK2_eq (o : Op) (b : E) (x : Mo × D) (k : Bool) : chK2 o T b ρ x k = (if k = true then ev T b ρ >>= op2 o.g x else .ok (.fz, .bl false)) := id rfl
@[simp] theorem chK1_eq (o : Op) (b : E) (x r : Mo × D) : chK1 o T b ρ x r = (toB r >>= chK2 o T b ρ x) := id rfl
@[simp] theorem chK0_eq (o o' : Op) (c : E) (x y : Mo × D) : chK0 o o' T c ρ x y = (op2 o.g x y >>= chK1 o' T c ρ y) := id rfl
@[simp] theorem chK_eq (o o' : Op) (b c : E) (x : Mo × D) : chK o o' T b c ρ x = (ev T b ρ >>= chK0 o o' T c ρ x) := id rfl
@[simp] theorem andB_eq (b : E) (k : Bool) : andB T b ρ k = if k = true then ev T b ρ else .ok (.fz, .bl false) := id rfl
@[simp] theorem andK_eq (b : E) (x : Mo × D) : andK T b ρ x = (toB x >>= andB T b ρ) := id rfl
@[simp] theorem orB_eq (b : E) (k : Bool) : orB T b ρ k = if k = true then .ok (.fz, .bl true) else ev T b ρ := id rfl
@[simp] theorem orK_eq (b : E) (x : Mo × D) : orK T b ρ x = (toB x >>= orB T b ρ) := id rfl
@[simp] theorem notB_eq (k : Bool) : notB k = .ok (.fz, .bl (!k)) := id rfl
@[simp] theorem notK_eq (x : Mo × D) : notK x = (toB x >>= notB) := id rfl
@[simp] theorem negK_int (m : Mo) (i : Int) : negK (m, .int i) = .ok (.fz, .int (-i)) := id rfl
@[simp] theorem iteB_eq (a b : E) (k : Bool) : iteB T a b ρ k = if k = true then ev T a ρ else ev T b ρ := id rfl
@[simp] theorem iteK_eq (a b : E) (x : Mo × D) : iteK T a b ρ x = (toB x >>= iteB T a b ρ) := id rfl
@[simp] theorem ixK_eq (b : E) (x : Mo × D) : ixK T b ρ x = (ev T b ρ >>= op2 ixG x) := id rfl
@[simp] theorem slK3_eq (x : Mo × D) (l h : Option Int) : slK3 x l h = optR (slG x l h) := id rfl
@[simp] theorem slK2_eq (x : Mo × D) (l : Option Int) (h : Option (Mo × D)) : slK2 x l h = (intO h >>= slK3 x l) := id rfl
@[simp] theorem slK1_eq (hi : Eo) (x : Mo × D) (l : Option Int) : slK1 T hi ρ x l = (evo T hi ρ >>= slK2 x l) := id rfl
@[simp] theorem slK0_eq (hi : Eo) (x : Mo × D) (l : Option (Mo × D)) : slK0 T hi ρ x l = (intO l >>= slK1 T hi ρ x) := id rfl
@[simp] theorem slK_eq (lo hi : Eo) (x : Mo × D) : slK T lo hi ρ x = (evo T lo ρ >>= slK0 T hi ρ x) := id rfl
@[simp] theorem oK_eq {α β : Type} (f : α → Option β) (x : α) : oK f x = optR (f x) := id rfl
@[simp] theorem d1B_eq (x y : Mo × D) : d1B x y = optR (dicG 0 [x.2] [y]) := id rfl
@[simp] theorem d1K_eq (b : E) (x : Mo × D) : d1K T b ρ x = (ev T b ρ >>= d1B x) := id rfl
@[simp] theorem callK_eq (f : Nat) (as : List (Mo × D)) : callK T f as = match T.fn[f]? with
    | some p => callG p.2.2 as
    | none => .st := id rfl
@[simp] theorem mtK_eq (m : Mt) (a : E) (x : Mo × D) : mtK T m a ρ x = if m.rcv x.2 = true then ev T a ρ >>= op2 m.g x else .st := id rfl
@[simp] theorem mdinK_eq (neg : Bool) (g : Nat) (m : Mo) (s : List Nat) : mdinK T neg g (m, .str s) = match T.md[g]? with
    | some p => .ok (.fz, .bl (if neg then !(slook p.2 s).isSome else (slook p.2 s).isSome))
    | _ => .st := by unfold mdinK; cases T.md[g]? <;> rfl
@[simp] theorem mdixK_eq (g : Nat) (m : Mo) (s : List Nat) : mdixK T g (m, .str s) = match T.md[g]? with
    | some p => optR ((slook p.2 s).map fun d => (.fz, d))
    | _ => .st := by unfold mdixK; cases T.md[g]? <;> rfl
@[simp] theorem lrK0_eq (x : Option (Mo × D)) (y : Mo × D) : lrK0 x y = optR (lrG x y) := id rfl
@[simp] theorem lrK_eq (hi : E) (x : Option (Mo × D)) : lrK T hi ρ x = (ev T hi ρ >>= lrK0 x) := id rfl
@[simp] theorem someK_eq (x : Mo × D) : someK x = .ok (some x) := id rfl
@[simp] theorem consB_eq (x : Mo × D) (as : List (Mo × D)) : consB x as = .ok (x :: as) := id rfl
@[simp] theorem consK_eq (es : Es) (x : Mo × D) : consK T es ρ x = (evs T es ρ >>= consB x) := id rfl
@[simp] theorem nxK_eq : nxK ρ = .ok (.nx ρ) := id rfl
@[simp] theorem setK_eq (i : Nat) (own : Bool) (x : Mo × D) : setK ρ i own x = (setV ρ i own x >>= nxK) := id rfl
@[simp] theorem setV_fz (i : Nat) (own : Bool) (d : D) : setV ρ i own (.fz, d) = if i < ρ.length then .ok (ρ.set i (some (false, d))) else .st := id rfl
@[simp] theorem setV_ow (i : Nat) (own : Bool) (d : D) : setV ρ i own (.ow, d) = if i < ρ.length then .ok (ρ.set i (some (own, d))) else .st := id rfl
@[simp] theorem asgK_fz (t : Tg) (d : D) : asgK ρ t (.fz, d) = (match bindT t d ρ with | some ρ => .ok (.nx ρ) | none => .st) := id rfl
@[simp] theorem parK_eq (is : List (Nat × Bool)) (as : List (Mo × D)) : parK ρ is as = (setVs ρ is as >>= nxK) := id rfl
@[simp] theorem setVs_nil : setVs ρ [] [] = .ok ρ := id rfl
@[simp] theorem setVs_cons (i : Nat) (w : Bool) (r : List (Nat × Bool)) (x : Mo × D) (as : List (Mo × D)) : setVs ρ ((i, w) :: r) (x :: as) = (setV ρ i w x >>= fun ρ => setVs ρ r as) := id rfl
@[simp] theorem augK_eq (i : Nat) (o : Op) (j : Int) (y : Mo × D) : augK ρ i o j y = match augG o (.int j) y.2 with | some z => .ok (.nx (ρ.set i (some (false, z)))) | none => .st := id rfl
@[simp] theorem putLK_eq (i : Nat) (ds : List D) : putLK ρ i ds = .ok (.nx (putO ρ i (.lst ds))) := id rfl
@[simp] theorem putDK_eq (i : Nat) (d : D) : putDK ρ i d = .ok (.nx (putO ρ i d)) := id rfl
@[simp] theorem siL2_eq (i : Nat) (x : Mo × D) (ds : List D) (k : Mo × D) : siL2 ρ i x ds k = (lsetG ds k x >>= putLK ρ i) := id rfl
@[simp] theorem siL_eq (i : Nat) (key : E) (x : Mo × D) (ds : List D) : siL T ρ i key x ds = (ev T key ρ >>= siL2 ρ i x ds) := id rfl
@[simp] theorem siD2_eq (i : Nat) (x : Mo × D) (d : Nat × List D × List D) (k : Mo × D) : siD2 ρ i x d k = (dsetG d.1 d.2.1 d.2.2 k x >>= putDK ρ i) := id rfl
@[simp] theorem siD_eq (i : Nat) (key : E) (x : Mo × D) (d : Nat × List D × List D) : siD T ρ i key x d = (ev T key ρ >>= siD2 ρ i x d) := id rfl
@[simp] theorem setIK_eq (i : Nat) (key : E) (x : Mo × D) : setIK T ρ i key x = match ρ[i]? with
    | some (some (true, .lst _)) => ownL ρ i >>= siL T ρ i key x
    | some (some (true, .dic _ _ _)) => ownD ρ i >>= siD T ρ i key x
    | _ => .st := id rfl
@[simp] theorem p2B_eq (j : Nat) (k2 : E) (b : D) : p2B T j k2 b ρ = (putD (ev T k2) j b ρ >>= nxK) := id rfl
@[simp] theorem p2A_eq (i : Nat) (k1 : E) (j : Nat) (k2 : E) (p : D × D) : p2A T ρ i k1 j k2 p = (putD (ev T k1) i p.1 ρ >>= p2B T j k2 p.2) := id rfl
@[simp] theorem put2K_eq (i : Nat) (k1 : E) (j : Nat) (k2 : E) (x : Mo × D) : put2K T ρ i k1 j k2 x = (two x >>= p2A T ρ i k1 j k2) := id rfl
@[simp] theorem xpK_eq (x : Mo × D) : xpK ρ x = .ok (.nx ρ) := id rfl
@[simp] theorem appB_eq (i : Nat) (ds : List D) (x : Mo × D) : appB ρ i ds x = (appG ds x >>= putLK ρ i) := id rfl
@[simp] theorem appK_eq (e : E) (i : Nat) (ds : List D) : appK T e ρ i ds = (ev T e ρ >>= appB ρ i ds) := id rfl
@[simp] theorem extB_eq (i : Nat) (ds : List D) (x : Mo × D) : extB ρ i ds x = (extG ds x >>= putLK ρ i) := id rfl
@[simp] theorem extK_eq (e : E) (i : Nat) (ds : List D) : extK T e ρ i ds = (ev T e ρ >>= extB ρ i ds) := id rfl
@[simp] theorem updB_eq (i : Nat) (d : Nat × List D × List D) (x : Mo × D) : updB ρ i d x = (updG d.1 d.2.1 d.2.2 x >>= putDK ρ i) := id rfl
@[simp] theorem updK_eq (e : E) (i : Nat) (d : Nat × List D × List D) : updK T e ρ i d = (ev T e ρ >>= updB ρ i d) := id rfl
@[simp] theorem sdB_eq (i : Nat) (d : Nat × List D × List D) (k x : Mo × D) : sdB ρ i d k x = (dsetd d.1 d.2.1 d.2.2 k x >>= putDK ρ i) := id rfl
@[simp] theorem sdA_eq (e : E) (i : Nat) (d : Nat × List D × List D) (k : Mo × D) : sdA T e ρ i d k = (ev T e ρ >>= sdB ρ i d k) := id rfl
@[simp] theorem sdK_eq (key e : E) (i : Nat) (d : Nat × List D × List D) : sdK T key e ρ i d = (ev T key ρ >>= sdA T e ρ i d) := id rfl
@[simp] theorem ifB_eq (a b : Ss) (k : Bool) : ifB T xs a b ρ k = if k = true then exs T xs a ρ else exs T xs b ρ := id rfl
@[simp] theorem ifK_eq (a b : Ss) (x : Mo × D) : ifK T xs a b ρ x = (toB x >>= ifB T xs a b ρ) := id rfl
@[simp] theorem thenS_nx (r : Ss) : thenS T xs r (.nx ρ) = exs T xs r ρ := id rfl
@[simp] theorem thenS_bk (r : Ss) : thenS T xs r (.bk ρ) = .ok (.bk ρ) := id rfl
@[simp] theorem thenS_ct (r : Ss) : thenS T xs r (.ct ρ) = .ok (.ct ρ) := id rfl
@[simp] theorem thenS_rt (r : Ss) (m : Mo) (d : D) : thenS T xs r (.rt m d) = .ok (.rt m d) := id rfl
@[simp] theorem endF_nx : endF (.nx ρ) = .ok (.fz, .non) := id rfl
@[simp] theorem endF_rt (m : Mo) (d : D) : endF (.rt m d) = .ok (m, d) := id rfl

@[simp] theorem ev_var (i : Nat) : ev T (.var i) ρ = match ρ[i]? with
  | some (some (w, d)) => .ok (if (w && !d.atom) = true then .bo else .fz, d)
  | _ => .st := by first | (simp only [ev]; done) | (simp only [ev]; rfl)
@[simp] theorem ev_con (d : D) : ev T (.con d) ρ = .ok (.fz, d) := by first | (simp only [ev]; done) | (simp only [ev]; rfl)
@[simp] theorem ev_glob (g : Nat) : ev T (.glob g) ρ = match T.gl[g]? with
  | some p => .ok (.fz, p.2)
  | none => .st := by first | (simp only [ev]; done) | (simp only [ev]; rfl)
@[simp] theorem ev_op (o : Op) (a b : E) : ev T (.op o a b) ρ = (ev T a ρ >>= opK o T b ρ) := by first | (simp only [ev]; done) | (simp only [ev]; rfl)
@[simp] theorem ev_chn (o o' : Op) (a b c : E) : ev T (.chn o o' a b c) ρ = (ev T a ρ >>= chK o o' T b c ρ) := by first | (simp only [ev]; done) | (simp only [ev]; rfl)
@[simp] theorem ev_and (a b : E) : ev T (.and a b) ρ = (ev T a ρ >>= andK T b ρ) := by first | (simp only [ev]; done) | (simp only [ev]; rfl)
@[simp] theorem ev_or (a b : E) : ev T (.or a b) ρ = (ev T a ρ >>= orK T b ρ) := by first | (simp only [ev]; done) | (simp only [ev]; rfl)
@[simp] theorem ev_not (a : E) : ev T (.not a) ρ = (ev T a ρ >>= notK) := by first | (simp only [ev]; done) | (simp only [ev]; rfl)
@[simp] theorem ev_neg (a : E) : ev T (.neg a) ρ = (ev T a ρ >>= negK) := by first | (simp only [ev]; done) | (simp only [ev]; rfl)
@[simp] theorem ev_ite (c a b : E) : ev T (.ite c a b) ρ = (ev T c ρ >>= iteK T a b ρ) := by first | (simp only [ev]; done) | (simp only [ev]; rfl)
@[simp] theorem ev_ix (a b : E) : ev T (.ix a b) ρ = (ev T a ρ >>= ixK T b ρ) := by first | (simp only [ev]; done) | (simp only [ev]; rfl)
@[simp] theorem ev_sl (a : E) (lo hi : Eo) : ev T (.sl a lo hi) ρ = (ev T a ρ >>= slK T lo hi ρ) := by first | (simp only [ev]; done) | (simp only [ev]; rfl)
@[simp] theorem ev_rev (a : E) : ev T (.rev a) ρ = (ev T a ρ >>= oK revG) := by first | (simp only [ev]; done) | (simp only [ev]; rfl)
@[simp] theorem ev_tup (es : Es) : ev T (.tup es) ρ = (evs T es ρ >>= oK tupDG) := by first | (simp only [ev]; done) | (simp only [ev]; rfl)
@[simp] theorem ev_lst (es : Es) : ev T (.lst es) ρ = (evs T es ρ >>= oK lstG) := by first | (simp only [ev]; done) | (simp only [ev]; rfl)
@[simp] theorem ev_dic (k : Nat) (ks : List D) (vs : Es) : ev T (.dic k ks vs) ρ = (evs T vs ρ >>= oK (dicG k ks)) := by first | (simp only [ev]; done) | (simp only [ev]; rfl)
@[simp] theorem ev_dic1 (a b : E) : ev T (.dic1 a b) ρ = (ev T a ρ >>= d1K T b ρ) := by first | (simp only [ev]; done) | (simp only [ev]; rfl)
@[simp] theorem ev_call (f : Nat) (es : Es) : ev T (.call f es) ρ = (evs T es ρ >>= callK T f) := by first | (simp only [ev]; done) | (simp only [ev]; rfl)
@[simp] theorem ev_bi (b : Bi) (es : Es) : ev T (.bi b es) ρ = (evs T es ρ >>= oK b.g) := by first | (simp only [ev]; done) | (simp only [ev]; rfl)
@[simp] theorem ev_isi (a : E) (t : Ty) : ev T (.isi a t) ρ = (ev T a ρ >>= oK (isiG t)) := by first | (simp only [ev]; done) | (simp only [ev]; rfl)
@[simp] theorem ev_mt (m : Mt) (o a : E) : ev T (.mt m o a) ρ = (ev T o ρ >>= mtK T m a ρ) := by first | (simp only [ev]; done) | (simp only [ev]; rfl)
@[simp] theorem ev_mdin (neg : Bool) (g : Nat) (a : E) : ev T (.mdin neg g a) ρ = (ev T a ρ >>= mdinK T neg g) := by first | (simp only [ev]; done) | (simp only [ev]; rfl)
@[simp] theorem ev_mdix (g : Nat) (a : E) : ev T (.mdix g a) ρ = (ev T a ρ >>= mdixK T g) := by first | (simp only [ev]; done) | (simp only [ev]; rfl)
@[simp] theorem ev_lc (x : E) (vs : List Nat) (tg : Tg) (it : It) (c : Eo) : ev T (.lc x vs tg it c) ρ = (evi T it ρ >>= lcK T x vs tg c ρ) := by first | (simp only [ev]; done) | (simp only [ev]; rfl)
@[simp] theorem ev_dc (k x : E) (vs : List Nat) (tg : Tg) (it : It) (c : Eo) : ev T (.dc k x vs tg it c) ρ = (evi T it ρ >>= dcK T k x vs tg c ρ) := by first | (simp only [ev]; done) | (simp only [ev]; rfl)
@[simp] theorem ev_lrng (lo : Eo) (hi : E) : ev T (.lrng lo hi) ρ = (evo T lo ρ >>= lrK T hi ρ) := by first | (simp only [ev]; done) | (simp only [ev]; rfl)
@[simp] theorem ev_sset (a : E) : ev T (.sset a) ρ = (ev T a ρ >>= oK setG) := by first | (simp only [ev]; done) | (simp only [ev]; rfl)
@[simp] theorem evo_no : evo T .no ρ = .ok none := by first | (simp only [evo]; done) | (simp only [evo]; rfl)
@[simp] theorem evo_so (e : E) : evo T (.so e) ρ = (ev T e ρ >>= someK) := by first | (simp only [evo]; done) | (simp only [evo]; rfl)
@[simp] theorem evc_no : evc T .no ρ = .ok true := by first | (simp only [evc]; done) | (simp only [evc]; rfl)
@[simp] theorem evc_so (e : E) : evc T (.so e) ρ = (ev T e ρ >>= toB) := by first | (simp only [evc]; done) | (simp only [evc]; rfl)
@[simp] theorem evs_nil_s : evs T .nil ρ = .ok [] := by first | (simp only [evs]; done) | (simp only [evs]; rfl)
@[simp] theorem evs_cons_s (e : E) (es : Es) : evs T (.cons e es) ρ = (ev T e ρ >>= consK T es ρ) := by first | (simp only [evs]; done) | (simp only [evs]; rfl)
@[simp] theorem evi_of (e : E) : evi T (.of e) ρ = (ev T e ρ >>= itemsG) := by first | (simp only [evi]; done) | (simp only [evi]; rfl)
@[simp] theorem evi_rng (es : Es) : evi T (.rng es) ρ = (evs T es ρ >>= rngG) := by first | (simp only [evi]; done) | (simp only [evi]; rfl)
@[simp] theorem evi_enm (e : E) : evi T (.enm e) ρ = (ev T e ρ >>= enumG) := by first | (simp only [evi]; done) | (simp only [evi]; rfl)
@[simp] theorem exS_skip : exS T xs .skip ρ = .ok (.nx ρ) := by first | (simp only [exS]; done) | (simp only [exS]; rfl)
@[simp] theorem exS_set (i : Nat) (own : Bool) (e : E) : exS T xs (.set i own e) ρ = (ev T e ρ >>= setK ρ i own) := by first | (simp only [exS]; done) | (simp only [exS]; rfl)
@[simp] theorem exS_asg (t : Tg) (e : E) : exS T xs (.asg t e) ρ = (ev T e ρ >>= asgK ρ t) := by first | (simp only [exS]; done) | (simp only [exS]; rfl)
@[simp] theorem exS_par (is : List (Nat × Bool)) (es : Es) : exS T xs (.par is es) ρ = (evs T es ρ >>= parK ρ is) := by first | (simp only [exS]; done) | (simp only [exS]; rfl)
@[simp] theorem exS_aug (i : Nat) (o : Op) (e : E) : exS T xs (.aug i o e) ρ = match ρ[i]? with
    | some (some (false, .int j)) => ev T e ρ >>= augK ρ i o j
    | _ => .st := by first | (simp only [exS]; done) | (simp only [exS]; rfl)
@[simp] theorem exS_setI (i : Nat) (key e : E) : exS T xs (.setI i key e) ρ = (ev T e ρ >>= setIK T ρ i key) := by first | (simp only [exS]; done) | (simp only [exS]; rfl)
@[simp] theorem exS_put2 (i : Nat) (k1 : E) (j : Nat) (k2 : E) (e : E) : exS T xs (.put2 i k1 j k2 e) ρ = (ev T e ρ >>= put2K T ρ i k1 j k2) := by first | (simp only [exS]; done) | (simp only [exS]; rfl)
@[simp] theorem exS_xp (e : E) : exS T xs (.xp e) ρ = (ev T e ρ >>= xpK ρ) := by first | (simp only [exS]; done) | (simp only [exS]; rfl)
@[simp] theorem exS_app (i : Nat) (e : E) : exS T xs (.app i e) ρ = (ownL ρ i >>= appK T e ρ i) := by first | (simp only [exS]; done) | (simp only [exS]; rfl)
@[simp] theorem exS_ext (i : Nat) (e : E) : exS T xs (.ext i e) ρ = (ownL ρ i >>= extK T e ρ i) := by first | (simp only [exS]; done) | (simp only [exS]; rfl)
@[simp] theorem exS_upd (i : Nat) (e : E) : exS T xs (.upd i e) ρ = (ownD ρ i >>= updK T e ρ i) := by first | (simp only [exS]; done) | (simp only [exS]; rfl)
@[simp] theorem exS_setd (i : Nat) (key e : E) : exS T xs (.setd i key e) ρ = (ownD ρ i >>= sdK T key e ρ i) := by first | (simp only [exS]; done) | (simp only [exS]; rfl)
@[simp] theorem exS_ret (e : E) : exS T xs (.ret e) ρ = (ev T e ρ >>= retG) := by first | (simp only [exS]; done) | (simp only [exS]; rfl)
@[simp] theorem exS_retN : exS T xs .retN ρ = .ok (.rt .fz .non) := by first | (simp only [exS]; done) | (simp only [exS]; rfl)
@[simp] theorem exS_ite (c : E) (a b : Ss) : exS T xs (.ite c a b) ρ = (ev T c ρ >>= ifK T xs a b ρ) := by first | (simp only [exS]; done) | (simp only [exS]; rfl)
@[simp] theorem exS_for (t : Tg) (it : It) (b : Ss) : exS T xs (.for t it b) ρ = (evi T it ρ >>= forK T xs t b ρ) := by first | (simp only [exS]; done) | (simp only [exS]; rfl)
@[simp] theorem exS_brk : exS T xs .brk ρ = .ok (.bk ρ) := by first | (simp only [exS]; done) | (simp only [exS]; rfl)
@[simp] theorem exS_cnt : exS T xs .cnt ρ = .ok (.ct ρ) := by first | (simp only [exS]; done) | (simp only [exS]; rfl)
@[simp] theorem exS_raise (g : Nat) : exS T xs (.raise g) ρ = erG T xs.ex g := by first | (simp only [exS]; done) | (simp only [exS]; rfl)
@[simp] theorem exS_try1 (g : Nat) (e : E) : exS T xs (.try1 g e) ρ = match ev T e ρ with
    | .ok x => retG x
    | .er c p => match xs.ex[g]? with
      | some h => if c = h then .ok (.rt .fz .non) else .st
      | none => .st
    | .st => .st := by first | (simp only [exS]; done) | (simp only [exS]; rfl)
@[simp] theorem exs_nil_s : exs T xs .nil ρ = .ok (.nx ρ) := by first | (simp only [exs]; done) | (simp only [exs]; rfl)
@[simp] theorem exs_cons_s (s : S) (r : Ss) : exs T xs (.cons s r) ρ = (exS T xs s ρ >>= thenS T xs r) := by first | (simp only [exs]; done) | (simp only [exs]; rfl)
@[simp] theorem exs_frz_s (i : Nat) (r : Ss) : exs T xs (.frz i r) ρ = match ρ[i]? with
    | some (some (_, d)) => exs T xs r (ρ.set i (some (false, d)))
    | _ => .st := by first | (simp only [exs]; done) | (simp only [exs]; rfl)
theorem runF_eq (n : Nat) (b : Ss) (ds : List D) : runF T xs n b ds = (exs T xs b (ds.map (fun d => some (false, d)) ++ List.replicate (n - ds.length) none) >>= endF) := rfl
/-- a statement ahead of others -/
theorem exs_seq {s : S} {r : Ss} {ρ ρ' : Rho} {T : Tab} {xs : Xs} (h : exS T xs s ρ = .ok (.nx ρ')) : exs T xs (.cons s r) ρ = exs T xs r ρ' := by rw [exs_cons_s, h]; rfl
theorem exs_rt {s : S} {r : Ss} {ρ : Rho} {T : Tab} {xs : Xs} {m : Mo} {d : D} (h : exS T xs s ρ = .ok (.rt m d)) : exs T xs (.cons s r) ρ = .ok (.rt m d) := by rw [exs_cons_s, h]; rfl
theorem exs_er {s : S} {r : Ss} {ρ : Rho} {T : Tab} {xs : Xs} {c : Str} {d : D} (h : exS T xs s ρ = .er c d) : exs T xs (.cons s r) ρ = .er c d := by rw [exs_cons_s, h]; rfl
end
/-! the operations on known data -/
@[simp] theorem op2_def (g : Mo × D → Mo × D → Option (Mo × D)) (a b : Mo × D) : op2 g a b = match g a b with
  | some r => .ok r
  | none => .st := id rfl
@[simp] theorem intO_none : intO none = .ok none := id rfl
@[simp] theorem intO_some (m : Mo) (i : Int) : intO (some (m, .int i)) = .ok (some i) := id rfl
theorem cut_str (a : List Nat) (n : Nat) (h : a.length ≤ sizeLine) (m : Mo) : slG (m, .str a) none (some (n : Int)) = some (.fz, .str (a.take n)) := by
  unfold slG Pi.cutD
  simp only [h, if_true, HT.sIx_none, HT.sIx_nat, List.drop_zero, Nat.sub_zero]
  rw [← List.take_eq_take_min]
theorem cut_str1 (a : List Nat) (n : Nat) (h : a.length ≤ sizeLine) (m : Mo) : slG (m, .str a) none (some ((n : Int) + 1)) = some (.fz, .str (a.take (n + 1))) := cut_str a (n + 1) h m
@[simp] theorem on1_one (g : Mo × D → Option (Mo × D)) (x : Mo × D) : on1 g [x] = g x := id rfl
@[simp] theorem g_len : Bi.len.g = on1 lenG := id rfl
@[simp] theorem g_abs : Bi.abs.g = on1 absG := id rfl
@[simp] theorem g_int : Bi.int.g = on1 intG := id rfl
@[simp] theorem g_all : Bi.all.g = on1 (allG true) := id rfl
@[simp] theorem g_any : Bi.any.g = on1 (allG false) := id rfl
@[simp] theorem g_sum : Bi.sum.g = on1 sumG := id rfl
@[simp] theorem g_tuple : Bi.tuple.g = on1 tupG := id rfl
@[simp] theorem g_list : Bi.list.g = on1 listG := id rfl
@[simp] theorem g_sorted : Bi.sorted.g = on1 sortG := id rfl
@[simp] theorem og_add : Op.add.g = addG := id rfl
@[simp] theorem og_sub : Op.sub.g = at2 subG := id rfl
@[simp] theorem og_mul : Op.mul.g = mulG := id rfl
@[simp] theorem og_fdiv : Op.fdiv.g = at2 fdivG := id rfl
@[simp] theorem og_mod : Op.mod.g = at2 modG := id rfl
@[simp] theorem og_pow : Op.pow.g = at2 powG := id rfl
@[simp] theorem og_eq : Op.eq.g = blG false eqD := id rfl
@[simp] theorem og_ne : Op.ne.g = blG true eqD := id rfl
@[simp] theorem og_cm (c : Cm) : (Op.cm c).g = blG c.neg (cmD c) := id rfl
@[simp] theorem og_in (n : Bool) : (Op.inn n).g = blG n inD2 := id rfl
@[simp] theorem og_is (n : Bool) : (Op.is n).g = isG n := id rfl
@[simp] theorem isi_str_str (m : Mo) (s : List Nat) : isiG .str (m, .str s) = some (.fz, .bl true) := id rfl
@[simp] theorem isi_int_int (m : Mo) (s : Int) : isiG .int (m, .int s) = some (.fz, .bl true) := id rfl
@[simp] theorem isi_bool_int (m : Mo) (s : Int) : isiG .bool (m, .int s) = some (.fz, .bl false) := id rfl
@[simp] theorem isi_tup_tup (m : Mo) (s : List D) : isiG .tup (m, .tup s) = some (.fz, .bl true) := id rfl
@[simp] theorem isi_tup_str (m : Mo) (s : List Nat) : isiG .tup (m, .str s) = some (.fz, .bl false) := id rfl
@[simp] theorem isi_tup_int (m : Mo) (s : Int) : isiG .tup (m, .int s) = some (.fz, .bl false) := id rfl
@[simp] theorem isi_str_int (m : Mo) (s : Int) : isiG .str (m, .int s) = some (.fz, .bl false) := id rfl
@[simp] theorem isi_int_str (m : Mo) (s : List Nat) : isiG .int (m, .str s) = some (.fz, .bl false) := id rfl
@[simp] theorem isi_non (m : Mo) (t : Ty) : isiG t (m, .non) = some (.fz, .bl false) := id rfl
@[simp] theorem eq_str (m n : Mo) (a b : List Nat) (g : Bool) : blG g eqD (m, .str a) (n, .str b) = some (.fz, .bl (if g then !decide (a = b) else decide (a = b))) := id rfl
@[simp] theorem eq_int (m n : Mo) (a b : Int) (g : Bool) : blG g eqD (m, .int a) (n, .int b) = some (.fz, .bl (if g then !decide (a = b) else decide (a = b))) := id rfl
theorem eqD_bl (a b : Bool) : eqD (.bl a) (.bl b) = some (decide (a = b)) := by cases a <;> cases b <;> rfl
@[simp] theorem eq_bl (m n : Mo) (a b : Bool) (g : Bool) : blG g eqD (m, .bl a) (n, .bl b) = some (.fz, .bl (if g then !decide (a = b) else decide (a = b))) := by unfold blG; rw [eqD_bl]; rfl
@[simp] theorem lt_int (m n : Mo) (a b : Int) (g : Bool) : blG g (cmD .lt) (m, .int a) (n, .int b) = some (.fz, .bl (if g then !decide (a < b) else decide (a < b))) := id rfl
@[simp] theorem gt_int (m n : Mo) (a b : Int) (g : Bool) : blG g (cmD .gt) (m, .int a) (n, .int b) = some (.fz, .bl (if g then !decide (b < a) else decide (b < a))) := id rfl
@[simp] theorem le_int (m n : Mo) (a b : Int) (g : Bool) : blG g (cmD .le) (m, .int a) (n, .int b) = some (.fz, .bl (if g then !decide (b < a) else decide (b < a))) := id rfl
@[simp] theorem ge_int (m n : Mo) (a b : Int) (g : Bool) : blG g (cmD .ge) (m, .int a) (n, .int b) = some (.fz, .bl (if g then !decide (a < b) else decide (a < b))) := id rfl
@[simp] theorem neg_lt : Cm.lt.neg = false := id rfl
@[simp] theorem neg_gt : Cm.gt.neg = false := id rfl
@[simp] theorem neg_le : Cm.le.neg = true := id rfl
@[simp] theorem neg_ge : Cm.ge.neg = true := id rfl
theorem len_str (m : Mo) {a : List Nat} (h : a.length ≤ sizeLine) : lenG (m, .str a) = some (.fz, .int a.length) := by unfold lenG; simp [h]
@[simp] theorem len_tup (m : Mo) (a : List D) : lenG (m, .tup a) = some (.fz, .int a.length) := id rfl
@[simp] theorem len_lst (m : Mo) (a : List D) : lenG (m, .lst a) = some (.fz, .int a.length) := id rfl
@[simp] theorem len_dic (m : Mo) (a b : List D) : lenG (m, .dic 0 a b) = some (.fz, .int a.length) := id rfl
@[simp] theorem int_int (m : Mo) (a : Int) : intG (m, .int a) = some (.fz, .int a) := id rfl
@[simp] theorem add_int (m n : Mo) (a b : Int) : addG (m, .int a) (n, .int b) = some (.fz, .int (a + b)) := id rfl
theorem add_str (m n : Mo) {a b : List Nat} (h : a.length + b.length ≤ sizeLine) : addG (m, .str a) (n, .str b) = some (.fz, .str (a ++ b)) := by unfold addG; simp [h]
theorem add_tup (m n : Mo) {a b : List D} (h : a.length + b.length ≤ sizeLine) : addG (m, .tup a) (n, .tup b) = some (.fz, .tup (a ++ b)) := by unfold addG; simp [h]
theorem add_lst {m n : Mo} {a b : List D} (h : a.length + b.length ≤ sizeLine) (h1 : elOk m a = true) (h2 : elOk n b = true) : addG (m, .lst a) (n, .lst b) = some (lmo (a ++ b), .lst (a ++ b)) := by unfold addG; simp [h, h1, h2]
@[simp] theorem sub_int (m n : Mo) (a b : Int) : at2 subG (m, .int a) (n, .int b) = some (.fz, .int (a - b)) := id rfl
@[simp] theorem is_non (m n : Mo) (d : D) (g : Bool) : isG g (m, d) (n, .non) = some (.fz, .bl (if g then !d.isNon else d.isNon)) := id rfl
@[simp] theorem nn_non : D.non.isNon = true := id rfl
@[simp] theorem nn_int (i : Int) : (D.int i).isNon = false := id rfl
@[simp] theorem nn_str (i : List Nat) : (D.str i).isNon = false := id rfl
@[simp] theorem nn_tup (i : List D) : (D.tup i).isNon = false := id rfl
@[simp] theorem nn_lst (i : List D) : (D.lst i).isNon = false := id rfl
@[simp] theorem retG_fz (d : D) : retG (.fz, d) = .ok (.rt .fz d) := id rfl
@[simp] theorem retG_ow (d : D) : retG (.ow, d) = .ok (.rt .ow d) := id rfl
@[simp] theorem retG_bo (d : D) : retG (.bo, d) = .ok (.rt .ow d) := id rfl
@[simp] theorem items_tup (m : Mo) (l : List D) : itemsG (m, .tup l) = .ok l := id rfl
@[simp] theorem items_fz (l : List D) : itemsG (.fz, .lst l) = .ok l := by unfold itemsG; simp
theorem items_ow {l : List D} (h : l.all D.atom = true) : itemsG (.ow, .lst l) = .ok l := by unfold itemsG; simp only [h]; simp
@[simp] theorem items_dic (a b : List D) : itemsG (.ow, .dic 0 a b) = .ok a := by unfold itemsG; simp
@[simp] theorem items_str (m : Mo) (s : List Nat) : itemsG (m, .str s) = .ok (s.map fun c => .str [c]) := id rfl
theorem all_bls (k : Bool) (m : Mo) (l : List Bool) : allG k (m, .lst (l.map .bl)) = some (.fz, .bl (if k then l.all id else l.any id)) := by unfold allG; simp only [bls_map]; rfl
@[simp] theorem ite_or (p : Prop) [Decidable p] (l : Bool) : (if p then (Res.ok (Mo.fz, D.bl true)) else Res.ok (Mo.fz, D.bl l)) = Res.ok (Mo.fz, D.bl (decide p || l)) := by by_cases h : p <;> simp [h]
@[simp] theorem ite_and (p : Prop) [Decidable p] (l : Bool) : (if p then (Res.ok (Mo.fz, D.bl l)) else Res.ok (Mo.fz, D.bl false)) = Res.ok (Mo.fz, D.bl (decide p && l)) := by by_cases h : p <;> simp [h]
theorem tupDG_all {as : List (Mo × D)} (h : as.all (fun a => decide (a.1 ≠ .bo)) = true) (z : as.length ≤ sizeLine) : tupDG as = some (.fz, .tup (as.map (·.2))) := by
  unfold tupDG
  rw [if_neg]
  rintro (q | q)
  · rw [List.any_eq_true] at q
    obtain ⟨x, hx, e⟩ := q
    rw [List.all_eq_true] at h
    have := h x hx
    simp at this e
    exact this e
  · exact q z
@[simp] theorem ix_tup (m n : Mo) (l : List D) (i : Int) : ixG (m, .tup l) (n, .int i) = (atI l i).map fun d => (.fz, d) := id rfl
theorem atI_nat {α : Type} (l : List α) (k : Nat) : atI l (k : Int) = l[k]? := by
  unfold L2.atI L2.ixN
  rw [if_pos (by omega)]
  by_cases h : k < l.length
  · rw [if_pos (by omega)]; simp
  · rw [if_neg (by omega)]; simp; omega
@[simp] theorem atI_lit {α : Type} (l : List α) (k : Nat) : atI l (no_index (OfNat.ofNat k : Int)) = l[k]? := atI_nat l k
@[simp] theorem sz_line : sizeLine = 16777216 := by decide
end Pi

set_option Elab.async false
set_option linter.all false
set_option maxRecDepth 100000
set_option maxHeartbeats 4000000
/-! K77e: what each def of k77 means, in plain Lean. -/
namespace Pi
open PySem PySem.Spec PyProof.Rows L2
/-- a text of signs -/
def txt (s : List Nat) : Bool := s.all fun c => decide (c < 0x110000)
theorem toPys_strs : ∀ l : List (List Nat), toPys (l.map D.str) = some (l.map fun s => .str (mkS s))
  | [] => by simp only [List.map_nil, toPys]
  | a :: r => by simp only [List.map_cons, toPys, toPy, toPys_strs r, Option.bind_some, Option.map_some]
theorem pl_str {n : Nat} {s : List Nat} (h : txt s = true) : (D.str s).pl n = true := by cases n <;> (unfold D.pl; exact h)
theorem pls_strs {n : Nat} {l : List (List Nat)} (h : ∀ s ∈ l, txt s = true) : D.pls n (l.map .str) = true := pls_of fun d hd => by
  obtain ⟨s, hs, e⟩ := List.mem_map.mp hd
  subst e
  exact pl_str (h s hs)
theorem toPyS_tstrs {l : List (List Nat)} (h : ∀ s ∈ l, txt s = true) : toPyS (.tup (l.map .str)) = some (.tuple (l.map fun s => .str (mkS s))) := by
  obtain ⟨p, e, e2, _⟩ := pl_pyS (n := 64) (d := .tup (l.map .str)) (by unfold D.pl; exact pls_strs h) (by decide)
  simp only [toPy, toPys_strs, Option.map_some, Option.some.injEq] at e2
  rw [e, e2]
theorem toPyS_lstrs {l : List (List Nat)} (h : ∀ s ∈ l, txt s = true) : toPyS (.lst (l.map .str)) = some (.list (l.map fun s => .str (mkS s))) := by
  obtain ⟨p, e, e2, _⟩ := pl_pyS (n := 64) (d := .lst (l.map .str)) (by unfold D.pl; exact pls_strs h) (by decide)
  simp only [toPy, toPys_strs, Option.map_some, Option.some.injEq] at e2
  rw [e, e2]
theorem toPyS_str {s : List Nat} (h : txt s = true) : toPyS (.str s) = some (.str (mkS s)) := by
  obtain ⟨p, e, e2, _⟩ := pl_pyS (n := 64) (d := .str s) (pl_str h) (by decide)
  simp only [toPy, Option.some.injEq] at e2
  rw [e, e2]
theorem any_strs (a : List Nat) : ∀ l : List (List Nat), ((l.map fun s => PyData.str (mkS s)).any fun z => PyData.eqv z (.str (mkS a))) = decide (a ∈ l)
  | [] => by simp
  | b :: r => by
    rw [List.map_cons, List.any_cons, any_strs a r]
    have : PyData.eqv (.str (mkS b)) (.str (mkS a)) = decide (a = b) := by
      rw [PyData.eqv]
      by_cases h : a = b
      · subst h; simp
      · rw [decide_eq_false h]
        exact beq_eq_false_iff_ne.mpr fun e => h (mkS_inj e).symm
    rw [this, ← Bool.decide_or]
    simp [List.mem_cons]
theorem inD_tstrs {a : List Nat} {l : List (List Nat)} (ha : txt a = true) (h : ∀ s ∈ l, txt s = true) : inD (.str a) (.tup (l.map .str)) = some (decide (a ∈ l)) := by
  have e : inD (.str a) (.tup (l.map .str)) = (match toPyS (.str a), toPyS (.tup (l.map .str)) with
    | some p, some (.tuple qs) => some (qs.any fun z => PyData.eqv z p)
    | _, _ => none) := by unfold inD; split <;> first | rfl | (rename_i hh; cases hh; done) | skip
                          all_goals first | (rename_i hh; cases hh; rfl) | (rename_i h1 h2 h3; first | exact absurd rfl (h1 (l.map D.str)) | exact absurd rfl (h2 (l.map D.str)) | exact absurd rfl (h3 (l.map D.str)))
  rw [e, toPyS_str ha, toPyS_tstrs h]
  simp only
  rw [any_strs]
theorem inD_lstrs {a : List Nat} {l : List (List Nat)} (ha : txt a = true) (h : ∀ s ∈ l, txt s = true) : inD (.str a) (.lst (l.map .str)) = some (decide (a ∈ l)) := by
  have e : inD (.str a) (.lst (l.map .str)) = (match toPyS (.str a), toPyS (.lst (l.map .str)) with
    | some p, some (.list qs) => some (qs.any fun z => PyData.eqv z p)
    | _, _ => none) := by unfold inD; split <;> first | rfl | (rename_i hh; cases hh; done) | skip
                          all_goals first | (rename_i hh; cases hh; rfl) | (rename_i h1 h2 h3; first | exact absurd rfl (h1 (l.map D.str)) | exact absurd rfl (h2 (l.map D.str)) | exact absurd rfl (h3 (l.map D.str)))
  rw [e, toPyS_str ha, toPyS_lstrs h]
  simp only
  rw [any_strs]
theorem in_t2 {m n : Mo} {a x y : List Nat} (ha : txt a = true) (hx : txt x = true) (hy : txt y = true) (g : Bool) : blG g inD2 (m, .str a) (n, .tup [.str x, .str y]) = some (.fz, .bl (if g then !decide (a = x ∨ a = y) else decide (a = x ∨ a = y))) := by
  have := inD_tstrs (a := a) (l := [x, y]) ha (by simp [hx, hy])
  unfold blG
  rw [show inD2 (D.str a) (.tup [.str x, .str y]) = inD (D.str a) (.tup ([x, y].map .str)) from rfl, this]
  simp
theorem in_ls {m n : Mo} {a : List Nat} {l : List (List Nat)} (ha : txt a = true) (h : ∀ s ∈ l, txt s = true) (g : Bool) : blG g inD2 (m, .str a) (n, .lst (l.map .str)) = some (.fz, .bl (if g then !decide (a ∈ l) else decide (a ∈ l))) := by
  have := inD_lstrs ha h
  unfold blG
  rw [show inD2 (D.str a) (.lst (l.map .str)) = inD (D.str a) (.lst (l.map .str)) from rfl, this]
  rfl
theorem splitC_txt (c : Nat) : ∀ {s : List Nat}, txt s = true → ∀ u ∈ splitC c s, txt u = true
  | [], _, u, hu => by simp [splitC] at hu; subst hu; rfl
  | x :: r, h, u, hu => by
    unfold txt at h
    rw [List.all_cons, Bool.and_eq_true] at h
    have ih := splitC_txt c (s := r) h.2
    unfold splitC at hu
    split at hu
    · rcases List.mem_cons.mp hu with e | hu
      · subst e; rfl
      · exact ih u hu
    · split at hu
      · rename_i h' t e
        rcases List.mem_cons.mp hu with e' | hu
        · subst e'
          unfold txt
          rw [List.all_cons, h.1]
          have := ih h' (by rw [e]; simp)
          exact this
        · exact ih u (by rw [e]; exact List.mem_cons_of_mem _ hu)
      · simp at hu; subst hu
        unfold txt; simpa using h.1
end Pi
namespace K77
open PySem PySem.Spec PyProof.Rows L2 Pi
inductive Cd where
  | under (s : List Nat) | nt (s : List Nat) | frm (i : Int) | til (i : Int) | abv (i : Int) | bel (i : Int) | wrd (s : List Nat)
  deriving DecidableEq
def wU : List Nat := [117,110,100,101,114]
def wN : List Nat := [110,111,116]
def wF : List Nat := [102,114,111,109]
def wT : List Nat := [116,111]
def wA : List Nat := [97,98,111,118,101]
def wB : List Nat := [98,101,108,111,119]
def wW : List Nat := [119,111,114,100]
def Cd.word : Cd → List Nat
  | .under _ => wU | .nt _ => wN | .frm _ => wF | .til _ => wT | .abv _ => wA | .bel _ => wB | .wrd _ => wW
def Cd.told : Cd → D
  | .under s => .str s | .nt s => .str s | .frm i => .int i | .til i => .int i | .abv i => .int i | .bel i => .int i | .wrd s => .str s
def Cd.enc (c : Cd) : D := .tup [.str c.word, c.told]
structure Row where
  d : Int
  a : List Nat
  m : Int
  w : List Nat
  deriving DecidableEq
def Row.enc (r : Row) : D := .tup [.int r.d, .str r.a, .int r.m, .str r.w]
def Row.enc6 (r : Row) : D := .tup [.int 0, .int r.d, .str r.a, .str [], .int r.m, .str r.w]
abbrev Rule := List Cd × List Nat
def ruE (r : Rule) : D := .tup [.tup (r.1.map Cd.enc), .str r.2]
abbrev rsE (rs : List Rule) : D := .tup (rs.map ruE)
def undr (a b : List Nat) : Bool := decide (a = b) || decide (a.take (b.length + 1) = b ++ [58])
def keep (r : Row) : Cd → Bool
  | .under s => undr r.a s
  | .nt s => !undr r.a s
  | .frm i => decide (i ≤ r.d)
  | .til i => decide (r.d ≤ i)
  | .abv i => decide (i < r.m)
  | .bel i => decide (r.m < i)
  | .wrd s => decide (s ∈ splitC 32 r.w)
structure RowOk (r : Row) : Prop where
  a : r.a.length ≤ 1000
  w : r.w.length ≤ 1000
  t : txt r.w = true
  at' : txt r.a = true
def Cd.ok : Cd → Bool
  | .under s => decide (s.length ≤ 100) && txt s
  | .nt s => decide (s.length ≤ 100) && txt s
  | .wrd s => decide (s.length ≤ 100) && txt s
  | .frm i => decide (0 ≤ i) && decide (i ≤ 100000)
  | .til i => decide (0 ≤ i) && decide (i ≤ 100000)
  | .abv i => decide (-1000000000000000 ≤ i) && decide (i ≤ 1000000000000000)
  | .bel i => decide (-1000000000000000 ≤ i) && decide (i ≤ 1000000000000000)
theorem dnl (a b : Int) : (!decide (a < b)) = decide (b ≤ a) := by rw [← decide_not]; exact decide_eq_decide.mpr Int.not_lt
theorem under_eq (a b : List Nat) (ha : a.length ≤ 1000) (hb : b.length ≤ 1000) : fis_under [.str a, .str b] = .ok (.fz, .bl (undr a b)) := by
  unfold fis_under bfis_under undr
  have h1 := len_str .fz (a := b) (by rw [sz_line]; omega)
  have h2 := cut_str1 a b.length (by rw [sz_line]; omega) .fz
  have h3 := add_str .fz .fz (a := b) (b := [58]) (by simp; omega)
  simp [runF_eq, h1, h2, h3]
theorem kept_eq (r : Row) (c : Cd) (h : RowOk r) (hc : c.ok = true) : fis_kept [r.enc6, c.enc] = .ok (.fz, .bl (keep r c)) := by
  have hs : splitG (.fz, .str r.w) (.fz, .str [32]) = some (.ow, .lst ((splitC 32 r.w).map .str)) := by unfold splitG; have := h.w; simp; omega
  unfold fis_kept bfis_kept Row.enc6 Cd.enc
  cases c with
  | under s =>
    simp only [Cd.ok, Bool.and_eq_true, decide_eq_true_eq] at hc
    have := under_eq r.a s h.a (by omega)
    simp [runF_eq, bindT, bindTs, setR, Cd.word, Cd.told, wU, tupDG, in_t2, txt, tfis_kept, callG, this, keep]
  | nt s =>
    simp only [Cd.ok, Bool.and_eq_true, decide_eq_true_eq] at hc
    have := under_eq r.a s h.a (by omega)
    simp [runF_eq, bindT, bindTs, setR, Cd.word, Cd.told, wN, tupDG, in_t2, txt, tfis_kept, callG, this, keep]
  | frm i => simp [runF_eq, bindT, bindTs, setR, Cd.word, Cd.told, wF, tupDG, in_t2, txt, tfis_kept, keep, dnl]
  | til i => simp [runF_eq, bindT, bindTs, setR, Cd.word, Cd.told, wT, tupDG, in_t2, txt, tfis_kept, keep, dnl]
  | abv i => simp [runF_eq, bindT, bindTs, setR, Cd.word, Cd.told, wA, tupDG, in_t2, txt, tfis_kept, keep]
  | bel i => simp [runF_eq, bindT, bindTs, setR, Cd.word, Cd.told, wB, tupDG, in_t2, txt, tfis_kept, keep]
  | wrd s =>
    simp only [Cd.ok, Bool.and_eq_true, decide_eq_true_eq] at hc
    have q := in_ls (m := .fz) (n := .ow) (a := s) (l := splitC 32 r.w) hc.2 (splitC_txt 32 h.t) false
    simp [runF_eq, bindT, bindTs, setR, Cd.word, Cd.told, wW, tupDG, in_t2, txt, tfis_kept, keep, Mt.rcv, Mt.g, hs, q]
theorem lkeeps_eq (r : Row) (c : Cd) (h : RowOk r) (hc : c.ok = true) : f_law_keeps [r.enc, .str c.word, c.told] = .ok (.fz, .bl (keep r c)) := by
  have hs : splitG (.fz, .str r.w) (.fz, .str [32]) = some (.ow, .lst ((splitC 32 r.w).map .str)) := by unfold splitG; have := h.w; simp; omega
  unfold f_law_keeps bf_law_keeps Row.enc
  cases c with
  | under s =>
    simp only [Cd.ok, Bool.and_eq_true, decide_eq_true_eq] at hc
    have h1 := len_str .fz (a := s) (by rw [sz_line]; omega)
    have h2 := cut_str1 r.a s.length (by have := h.a; rw [sz_line]; omega) .fz
    have h3 := add_str .fz .fz (a := s) (b := [58]) (by simp; omega)
    simp [runF_eq, bindT, bindTs, setR, Cd.word, Cd.told, wU, tupDG, in_t2, txt, h1, h2, h3, keep, undr]
  | nt s =>
    simp only [Cd.ok, Bool.and_eq_true, decide_eq_true_eq] at hc
    have h1 := len_str .fz (a := s) (by rw [sz_line]; omega)
    have h2 := cut_str1 r.a s.length (by have := h.a; rw [sz_line]; omega) .fz
    have h3 := add_str .fz .fz (a := s) (b := [58]) (by simp; omega)
    simp [runF_eq, bindT, bindTs, setR, Cd.word, Cd.told, wN, tupDG, in_t2, txt, h1, h2, h3, keep, undr]
  | frm i => simp [runF_eq, bindT, bindTs, setR, Cd.word, Cd.told, wF, tupDG, in_t2, txt, tfis_kept, keep, dnl]
  | til i => simp [runF_eq, bindT, bindTs, setR, Cd.word, Cd.told, wT, tupDG, in_t2, txt, tfis_kept, keep, dnl]
  | abv i => simp [runF_eq, bindT, bindTs, setR, Cd.word, Cd.told, wA, tupDG, in_t2, txt, tfis_kept, keep]
  | bel i => simp [runF_eq, bindT, bindTs, setR, Cd.word, Cd.told, wB, tupDG, in_t2, txt, tfis_kept, keep]
  | wrd s =>
    simp only [Cd.ok, Bool.and_eq_true, decide_eq_true_eq] at hc
    have q := in_ls (m := .fz) (n := .ow) (a := s) (l := splitC 32 r.w) hc.2 (splitC_txt 32 h.t) false
    simp [runF_eq, bindT, bindTs, setR, Cd.word, Cd.told, wW, tupDG, in_t2, txt, tfis_kept, keep, Mt.rcv, Mt.g, hs, q]
end K77

set_option Elab.async false
set_option linter.all false
set_option maxRecDepth 100000
set_option maxHeartbeats 4000000
/-! K77f: found_rule, what conditions tell, days, amounts, accounts. -/
namespace Pi
open PySem PySem.Spec PyProof.Rows L2
theorem lcK_of {α : Type} {T : Tab} {e : E} {vs : List Nat} {tg : Tg} {c : Eo} {ρ : Rho} {enc : α → D} (p : α → Bool) (g : α → D) {l : List α} (z : l.length ≤ sizeLine)
    (h : ∀ x ∈ l, ∃ ρ2, bindT tg (enc x) (wipeR ρ vs) = some ρ2 ∧ evc T c ρ2 = .ok (p x) ∧ (p x = true → ∃ m, m ≠ .bo ∧ ev T e ρ2 = .ok (m, g x))) :
    lcK T e vs tg c ρ (l.map enc) = .ok (lmo ((l.filter p).map g), .lst ((l.filter p).map g)) := by
  unfold lcK
  refine lcR_of (lcL_map p g fun x hx => ?_) (by rw [List.length_map]; exact Nat.le_trans (List.length_filter_le _ _) z)
  obtain ⟨ρ2, h1, h2, h3⟩ := h x hx
  unfold lcStep
  rw [h1]
  simp only
  rw [h2]
  cases hp : p x with
  | false => rfl
  | true =>
    obtain ⟨m, hm, h4⟩ := h3 hp
    simp only
    rw [h4]
    simp only
    rw [if_neg hm]
    rfl
theorem lcK_at {α : Type} {T : Tab} {e : E} {vs : List Nat} {tg : Tg} {c : Eo} {ρ : Rho} {enc : α → D} (p : α → Bool) (g : α → D) {l : List α} (z : l.length ≤ sizeLine) (ha : ∀ x, (g x).atom = true)
    (h : ∀ x ∈ l, ∃ ρ2, bindT tg (enc x) (wipeR ρ vs) = some ρ2 ∧ evc T c ρ2 = .ok (p x) ∧ (p x = true → ev T e ρ2 = .ok (.fz, g x))) :
    lcK T e vs tg c ρ (l.map enc) = .ok (.ow, .lst ((l.filter p).map g)) := by
  rw [lcK_of p g z fun x hx => let ⟨ρ2, h1, h2, h3⟩ := h x hx; ⟨ρ2, h1, h2, fun q => ⟨.fz, by decide, h3 q⟩⟩, lmo_atoms (atoms_map g ha _)]
theorem lcK_bl {α : Type} {T : Tab} {e : E} {vs : List Nat} {tg : Tg} {ρ : Rho} {enc : α → D} (b : α → Bool) {l : List α} (z : l.length ≤ sizeLine)
    (h : ∀ x ∈ l, ∃ ρ2, bindT tg (enc x) (wipeR ρ vs) = some ρ2 ∧ ev T e ρ2 = .ok (.fz, .bl (b x))) :
    lcK T e vs tg .no ρ (l.map enc) = .ok (.ow, .lst (l.map fun x => .bl (b x))) := by
  have := lcK_at (c := .no) (fun _ => true) (fun x => .bl (b x)) z (fun _ => rfl) fun x hx => let ⟨ρ2, h1, h2⟩ := h x hx; ⟨ρ2, h1, by simp, fun _ => h2⟩
  rw [this, List.filter_eq_self.mpr (fun _ _ => rfl)]
@[simp] theorem all_blsT {α : Type} (m : Mo) (b : α → Bool) (l : List α) : allG true (m, .lst (l.map fun x => .bl (b x))) = some (.fz, .bl (l.all b)) := by
  have := all_bls true m (l.map b)
  rw [List.map_map] at this
  rw [show (l.map fun x => D.bl (b x)) = l.map (D.bl ∘ b) from rfl, this]
  simp
theorem enumG_tup {α : Type} (enc : α → D) (m : Mo) (l : List α) : enumG (m, .tup (l.map enc)) = .ok (l.zipIdx.map fun p => .tup [.int (p.2 : Nat), enc p.1]) := by
  unfold enumG
  simp only [items_tup, rb_ok]
  rw [← enumL_map enc l 0]
  rfl
theorem zipIdx_find {α : Type} (p : α → Bool) : ∀ (l : List α) (k : Nat), ((l.zipIdx k).find? fun q => p q.1).map (·.2) = (l.findIdx? p).map (· + k)
  | [], _ => rfl
  | x :: r, k => by
    rw [List.zipIdx_cons, List.find?_cons, List.findIdx?_cons]
    cases hp : p x with
    | true => simp
    | false =>
      simp only
      rw [zipIdx_find p r (k + 1)]
      cases List.findIdx? p r <;> simp <;> omega
/-- a walk that may end with an answer -/
theorem exs_find {α : Type} {T : Tab} {xs : Xs} {t : Tg} {it : It} {b r : Ss} {ρ : Rho} {l : List α} {enc : α → D} {R : Res Fl} (I : Rho → Prop) (p : α → Bool) (out : α → Fl) (hit : evi T it ρ = .ok (l.map enc)) (i : I ρ)
    (h : ∀ x ρ, x ∈ l → I ρ → ∃ ρ1, bindT t (enc x) ρ = some ρ1 ∧ (p x = true → exs T xs b ρ1 = .ok (out x) ∧ (∃ m d, out x = .rt m d)) ∧ (p x = false → ∃ ρ2, (exs T xs b ρ1 = .ok (.nx ρ2) ∨ exs T xs b ρ1 = .ok (.ct ρ2)) ∧ I ρ2))
    (hs : ∀ x, l.find? p = some x → R = .ok (out x)) (hn : l.find? p = none → ∀ ρ', I ρ' → exs T xs r ρ' = R) : exs T xs (.cons (.for t it b) r) ρ = R := by
  have key := exFor_find (f := fun ρ => exs T xs b ρ) (t := t) (enc := enc) I p out (xs := l) (ρ := ρ) (fun x ρ hx hi => by
    obtain ⟨ρ1, h1, h2, h3⟩ := h x ρ hx hi
    refine ⟨ρ1, h1, ?_⟩
    cases hp : p x with
    | true => rw [if_pos rfl]; exact h2 hp
    | false => rw [if_neg (by decide)]; exact h3 hp) i
  rw [exs_cons_s, exS_for, hit, rb_ok]
  show (exFor _ _ _ _ >>= _) = _
  cases hf : l.find? p with
  | some x =>
    rw [hf] at key
    have key : exFor (fun ρ => exs T xs b ρ) t (l.map enc) ρ = .ok (out x) := key
    rw [key, hs x hf]
    have hm := List.mem_of_find?_eq_some hf
    have hp := List.find?_some hf
    obtain ⟨m, d, e⟩ : ∃ m d, out x = .rt m d := by
      obtain ⟨ρ1, _, h2, _⟩ := h x ρ hm i
      exact (h2 hp).2
    rw [e]
    rfl
  | none =>
    rw [hf] at key
    obtain ⟨ρ', e, i'⟩ := key
    rw [e]
    exact hn hf ρ' i'
/-- a walk that carries a state -/
theorem exs_fold {α σ : Type} {T : Tab} {xs : Xs} {t : Tg} {it : It} {b r : Ss} {ρ : Rho} {l : List α} {enc : α → D} {R : Res Fl} (I : σ → Rho → Prop) (step : σ → α → σ) (s : σ) (hit : evi T it ρ = .ok (l.map enc)) (i : I s ρ)
    (h : ∀ s x ρ, x ∈ l → I s ρ → ∃ ρ1, bindT t (enc x) ρ = some ρ1 ∧ ∃ ρ2, (exs T xs b ρ1 = .ok (.nx ρ2) ∨ exs T xs b ρ1 = .ok (.ct ρ2)) ∧ I (step s x) ρ2)
    (hn : ∀ ρ', I (l.foldl step s) ρ' → exs T xs r ρ' = R) : exs T xs (.cons (.for t it b) r) ρ = R := by
  obtain ⟨ρ', e, i'⟩ := exFor_fold (f := fun ρ => exs T xs b ρ) (t := t) (enc := enc) I step (xs := l) (s := s) (ρ := ρ) h i
  rw [exs_cons_s, exS_for, hit, rb_ok]
  show (exFor _ _ _ _ >>= _) = _
  rw [e]
  exact hn ρ' i'
theorem runF_of {T : Tab} {xs : Xs} {n : Nat} {b : Ss} {ds : List D} (R : Res Fl) {r : Res (Mo × D)} (h : exs T xs b (ds.map (fun d => some (false, d)) ++ List.replicate (n - ds.length) none) = R) (e : (R >>= endF) = r) : runF T xs n b ds = r := by
  rw [runF_eq, h, e]
end Pi
namespace K77
open PySem PySem.Spec PyProof.Rows L2 Pi
/-- what conditions of a word tell -/
def condsOf (rs : List Rule) : List Cd := rs.flatMap (·.1)
structure RsOk (rs : List Rule) : Prop where
  c : ∀ q ∈ rs, ∀ c ∈ q.1, c.ok = true
  l : ∀ q ∈ rs, q.1.length ≤ 6
  n : rs.length ≤ 16
  t : (condsOf rs).length ≤ 48
def oiE : Option Nat → D
  | none => .non
  | some k => .int (k : Nat)
def firstR (rs : List Rule) (r : Row) : Option Nat := rs.findIdx? fun q => q.1.all (keep r)
theorem asrow_eq (r : Row) : f_as_row [r.enc] = .ok (.fz, r.enc6) := by
  unfold f_as_row bf_as_row Row.enc Row.enc6
  simp [runF_eq, tupDG]
theorem find_idx {rs : List Rule} {p : Rule → Bool} : (∀ x, rs.zipIdx.find? (fun q => p q.1) = some x → rs.findIdx? p = some x.2) ∧ (rs.zipIdx.find? (fun q => p q.1) = none → rs.findIdx? p = none) := by
  have z := zipIdx_find p rs 0
  refine ⟨fun x hx => ?_, fun hx => ?_⟩
  · rw [hx] at z; simpa using z.symm
  · rw [hx] at z; simpa using z.symm
theorem found_eq (rs : List Rule) (r : Row) (h : RsOk rs) (hr : RowOk r) : ffound_rule [rsE rs, r.enc] = .ok (.fz, oiE (firstR rs r)) := by
  unfold ffound_rule bffound_rule
  refine runF_of (.ok (.rt .fz (oiE (firstR rs r)))) ?_ rfl
  refine exs_find (fun ρ => ∃ a b c d, ρ = [some (false, rsE rs), some (false, r.enc), a, b, c, d]) (fun p : Rule × Nat => p.1.1.all (keep r)) (fun p => .rt .fz (.int (p.2 : Nat))) (by simp; exact enumG_tup ruE .fz rs) ⟨_, _, _, _, rfl⟩ (fun x ρ hx ⟨a, b, c, d, e⟩ => ?_) (fun x hx => ?_) fun hx ρ ⟨a, b, c, d, e⟩ => ?_
  · subst e
    have hm : x.1 ∈ rs := by
      obtain ⟨_, _, e⟩ := List.mem_zipIdx hx
      rw [e]; exact List.getElem_mem _
    have hl : ∀ ρ0, lcK tffound_rule (.call 0 (.cons (.call 1 (.cons (.var 1) .nil)) (.cons (.var 5) .nil))) [5] (.nm 5) .no [some (false, rsE rs), some (false, r.enc), some (false, .int (x.2 : Nat)), some (false, .tup (x.1.1.map Cd.enc)), some (false, .str x.1.2), ρ0] (x.1.1.map Cd.enc) = .ok (.ow, .lst (x.1.1.map fun c => .bl (keep r c))) := fun ρ0 =>
      lcK_bl (keep r) (by have := h.l x.1 hm; rw [sz_line]; omega) fun cd hcd => by
        refine ⟨_, by simp [wipeR, bindT, setR]; rfl, ?_⟩
        simp [tffound_rule, callG, asrow_eq, kept_eq r cd hr (h.c x.1 hm cd hcd)]
    refine ⟨[some (false, rsE rs), some (false, r.enc), some (false, .int (x.2 : Nat)), some (false, .tup (x.1.1.map Cd.enc)), some (false, .str x.1.2), d], by simp [bindT, bindTs, setR, ruE], fun hp => ⟨by simp [hl, hp], .fz, _, rfl⟩, fun hp => ⟨[some (false, rsE rs), some (false, r.enc), some (false, .int (x.2 : Nat)), some (false, .tup (x.1.1.map Cd.enc)), some (false, .str x.1.2), d], .inl (by simp [hl, hp]), _, _, _, _, rfl⟩⟩
  · rw [firstR, find_idx.1 x hx]; rfl
  · subst e
    rw [firstR, find_idx.2 hx]
    simp [oiE]
end K77

set_option Elab.async false
set_option linter.all false
set_option maxRecDepth 100000
set_option maxHeartbeats 4000000
/-! K77g: _law_first, what conditions tell. -/
namespace Pi
open PySem PySem.Spec PyProof.Rows L2
theorem okI_nat {n : Nat} (h : n ≤ 1000000) : okI (n : Int) = true := by
  unfold okI
  rw [Bool.and_eq_true, decide_eq_true_eq, decide_eq_true_eq]
  constructor <;> omega
theorem rng_nat (m : Mo) {n : Nat} (h : n ≤ 1000000) : rngG [(m, .int (n : Nat))] = .ok ((List.range n).map fun (i : Nat) => .int (i : Nat)) := by
  have e : rngG [(m, .int (n : Nat))] = if okI (n : Int) = true then .ok (rgD 0 1 (n : Int).toNat) else .st := by
    simp only [rngG]
  rw [e, if_pos (okI_nat h), Int.toNat_natCast]
  unfold rgD
  simp
theorem sd_atoms (ks : List D) : (ks.map fun _ => D.bl true).all D.atom = true := by rw [List.all_map, List.all_eq_true]; exact fun _ _ => rfl
/-- a walk, its invariant said of what is behind it -/
theorem exFor_pre {α : Type} {f : Rho → Res Fl} {t : Tg} {enc : α → D} (I : List α → Rho → Prop) : ∀ {xs pre : List α} {ρ : Rho},
    (∀ p x post ρ, pre ++ xs = p ++ x :: post → I p ρ → ∃ ρ1, bindT t (enc x) ρ = some ρ1 ∧ ∃ ρ2, (f ρ1 = .ok (.nx ρ2) ∨ f ρ1 = .ok (.ct ρ2)) ∧ I (p ++ [x]) ρ2) → I pre ρ →
    ∃ ρ', exFor f t (xs.map enc) ρ = .ok (.nx ρ') ∧ I (pre ++ xs) ρ'
  | [], pre, ρ, _, i => ⟨ρ, rfl, by simpa using i⟩
  | x :: xs, pre, ρ, h, i => by
    obtain ⟨ρ1, e1, ρ2, e2, i2⟩ := h pre x xs ρ rfl i
    obtain ⟨ρ', e3, i3⟩ := exFor_pre I (xs := xs) (pre := pre ++ [x]) (ρ := ρ2) (fun p y post ρ e => h p y post ρ (by rw [← e]; simp)) i2
    refine ⟨ρ', ?_, by simpa using i3⟩
    rw [List.map_cons]
    unfold exFor
    rw [e1]
    simp only
    rcases e2 with e2 | e2
    · rw [e2]; exact e3
    · rw [e2]; exact e3
theorem exs_pre {α : Type} {T : Tab} {xs : Xs} {t : Tg} {it : It} {b r : Ss} {ρ : Rho} {l : List α} {enc : α → D} {R : Res Fl} (I : List α → Rho → Prop) (hit : evi T it ρ = .ok (l.map enc)) (i : I [] ρ)
    (h : ∀ p x post ρ, l = p ++ x :: post → I p ρ → ∃ ρ1, bindT t (enc x) ρ = some ρ1 ∧ ∃ ρ2, (exs T xs b ρ1 = .ok (.nx ρ2) ∨ exs T xs b ρ1 = .ok (.ct ρ2)) ∧ I (p ++ [x]) ρ2)
    (hn : ∀ ρ', I l ρ' → exs T xs r ρ' = R) : exs T xs (.cons (.for t it b) r) ρ = R := by
  obtain ⟨ρ', e, i'⟩ := exFor_pre (f := fun ρ => exs T xs b ρ) (t := t) (enc := enc) I (xs := l) (pre := []) (ρ := ρ) h i
  rw [exs_cons_s, exS_for, hit, rb_ok]
  show (exFor _ _ _ _ >>= _) = _
  rw [e]
  exact hn ρ' i'
theorem range_find {α : Type} (p : α → Bool) : ∀ l : List α, (List.range l.length).find? (fun k => (l[k]?).any p) = l.findIdx? p
  | [] => rfl
  | x :: r => by
    have ih := range_find p r
    rw [List.length_cons, List.range_succ_eq_map, List.find?_cons, List.findIdx?_cons]
    cases hp : p x with
    | true => simp [hp]
    | false =>
      simp only [List.getElem?_cons_zero, Option.any_some, hp, List.find?_map, ← ih]
      simp
      rfl
end Pi
namespace K77
open PySem PySem.Spec PyProof.Rows L2 Pi
theorem lfirst_eq (rs : List Rule) (r : Row) (h : RsOk rs) (hr : RowOk r) : f_law_first [rsE rs, r.enc] = .ok (.fz, oiE (firstR rs r)) := by
  unfold f_law_first bf_law_first
  have hn := h.n
  refine runF_of (.ok (.rt .fz (oiE (firstR rs r)))) ?_ rfl
  refine exs_find (enc := fun (i : Nat) => .int (i : Nat)) (fun ρ => ∃ a b c, ρ = [some (false, rsE rs), some (false, r.enc), a, b, c]) (fun k => (rs[k]?).any fun q => q.1.all (keep r)) (fun k => .rt .fz (.int (k : Nat))) (by simp; exact rng_nat .fz (n := rs.length) (by omega)) ⟨_, _, _, rfl⟩ (fun x ρ hx ⟨a, b, c, e⟩ => ?_) (fun x hx => ?_) fun hx ρ ⟨a, b, c, e⟩ => ?_
  · subst e
    have hk : x < rs.length := by simpa using hx
    obtain ⟨q, hq⟩ : ∃ q, rs[x]? = some q := ⟨rs[x], by simp [hk]⟩
    have hm : q ∈ rs := List.mem_of_getElem? hq
    have h0 : atI (rs.map ruE) (x : Nat) = some (ruE q) := by rw [Pi.atI_nat, List.getElem?_map, hq]; rfl
    have hl : lcK tf_law_first (.call 0 (.cons (.var 1) (.cons (.var 3) (.cons (.var 4) .nil)))) [3, 4] (.tp [(.nm 3), (.nm 4)]) .no [some (false, rsE rs), some (false, r.enc), some (false, .int (x : Nat)), b, c] (q.1.map Cd.enc) = .ok (.ow, .lst (q.1.map fun c => .bl (keep r c))) :=
      lcK_bl (keep r) (by have := h.l q hm; rw [sz_line]; omega) fun cd hcd => by
        refine ⟨_, by simp [wipeR, bindT, bindTs, setR, Cd.enc]; rfl, ?_⟩
        have ht : cd.told.atom = true := by cases cd <;> rfl
        simp [tf_law_first, callG, lkeeps_eq r cd hr (h.c q hm cd hcd), ht]
    refine ⟨[some (false, rsE rs), some (false, r.enc), some (false, .int (x : Nat)), b, c], by simp [bindT, setR], fun hp => ⟨?_, .fz, _, rfl⟩, fun hp => ⟨[some (false, rsE rs), some (false, r.enc), some (false, .int (x : Nat)), b, c], .inl ?_, _, _, _, rfl⟩⟩
    · simp only [hq, Option.any_some] at hp
      simp [h0, ruE, hl, hp]
    · simp only [hq, Option.any_some] at hp
      simp [h0, ruE, hl, hp]
  · rw [range_find (fun q : Rule => q.1.all (keep r)) rs] at hx
    rw [firstR, hx]; rfl
  · subst e
    rw [range_find (fun q : Rule => q.1.all (keep r)) rs] at hx
    rw [firstR, hx]
    simp [oiE]
def toldD (w : List Nat) (rs : List Rule) : List D := (condsOf rs).filterMap fun c => if c.word = w then some c.told else none
def tstep (w : List Nat) (ks : List D) (c : Cd) : List D := if c.word = w then kins ks c.told else ks
theorem tstep_fold (w : List Nat) : ∀ (l : List Cd) (ks : List D), l.foldl (tstep w) ks = (l.filterMap fun c => if c.word = w then some c.told else none).foldl kins ks
  | [], ks => rfl
  | c :: r, ks => by
    rw [List.foldl_cons, tstep_fold w r, List.filterMap_cons]
    unfold tstep
    by_cases h : c.word = w <;> simp [h]
theorem tstep_rules (w : List Nat) : ∀ (rs : List Rule) (ks : List D), rs.foldl (fun ks q => q.1.foldl (tstep w) ks) ks = (toldD w rs).foldl kins ks
  | [], ks => rfl
  | q :: r, ks => by
    rw [List.foldl_cons, tstep_rules w r, tstep_fold]
    unfold toldD condsOf
    rw [List.flatMap_cons, List.filterMap_append, List.foldl_append]
theorem told_key (c : Cd) : kOk 0 c.told = true := by cases c <;> rfl
theorem told_atom (c : Cd) : c.told.atom = true := by cases c <;> rfl
theorem condsOf_sub {rs ss : List Rule} (s : ss.Sublist rs) : (condsOf ss).length ≤ (condsOf rs).length := by
  induction s with
  | slnil => exact Nat.le_refl _
  | cons a _ ih => unfold condsOf at ih ⊢; rw [List.flatMap_cons, List.length_append]; omega
  | cons_cons a _ ih => unfold condsOf at ih ⊢; rw [List.flatMap_cons, List.flatMap_cons, List.length_append, List.length_append]; omega
theorem toldD_len (w : List Nat) (rs : List Rule) (h : RsOk rs) : (toldD w rs).length ≤ 48 := Nat.le_trans (List.length_filterMap_le _ _) h.t
def tfold (w : List Nat) (ks : List D) (q : Rule) : List D := q.1.foldl (tstep w) ks
theorem tfold_len (w : List Nat) (l : List Cd) (ks : List D) : (l.foldl (tstep w) ks).length ≤ ks.length + l.length := by
  rw [tstep_fold]
  refine Nat.le_trans (kinsL_le _ _) ?_
  have := List.length_filterMap_le (fun c : Cd => if c.word = w then some c.told else none) l
  omega
theorem RsOk.sub {rs ss : List Rule} (h : RsOk rs) (s : ss.Sublist rs) : RsOk ss := ⟨fun q hq => h.c q (s.subset hq), fun q hq => h.l q (s.subset hq), Nat.le_trans s.length_le h.n, Nat.le_trans (condsOf_sub s) h.t⟩
theorem told_eq (rs : List Rule) (w : List Nat) (h : RsOk rs) : f_told [rsE rs, .str w] = .ok (.ow, SD ((toldD w rs).foldl kins [])) := by
  unfold f_told bf_told
  refine runF_of (.ok (.rt .ow (SD ((toldD w rs).foldl kins [])))) ?_ rfl
  rw [exs_seq (ρ' := [some (false, rsE rs), some (false, .str w), some (true, SD []), none, none, none, none]) (by simp [dicG, dputs])]
  refine exs_pre (fun p ρ => ∃ a b c d, ρ = [some (false, rsE rs), some (false, .str w), some (true, SD (p.foldl (tfold w) [])), a, b, c, d]) (l := rs) (enc := ruE) (by simp) ⟨_, _, _, _, rfl⟩ (fun p q post ρ e ⟨a, b, c, d, e2⟩ => ?_) fun ρ ⟨a, b, c, d, e2⟩ => ?_
  · subst e2
    have hsub : RsOk p := h.sub (by rw [e]; exact List.sublist_append_left _ _)
    have hq : q ∈ rs := by rw [e]; simp
    have hz : (p.foldl (tfold w) []).length ≤ 48 := by
      have e3 := tstep_rules w p []
      have e4 := kinsL_le (toldD w p) []
      have e5 := toldD_len w p hsub
      show (p.foldl (fun ks q => q.1.foldl (tstep w) ks) []).length ≤ 48
      rw [e3]
      simp at e4
      omega
    generalize hK : p.foldl (tfold w) [] = K at hz
    refine ⟨[some (false, rsE rs), some (false, .str w), some (true, SD K), some (false, .tup (q.1.map Cd.enc)), some (false, .str q.2), c, d], by simp [bindT, bindTs, setR, ruE], ?_⟩
    have hin : exs tf_told xsC (.cons (.for (.tp [(.nm 5), (.nm 6)]) (.of (.var 3)) (.cons (.ite (.op .eq (.var 5) (.var 1)) (.cons (.setI 2 (.var 6) (.con (.bl true))) .nil) .nil) .nil)) .nil) [some (false, rsE rs), some (false, .str w), some (true, SD K), some (false, .tup (q.1.map Cd.enc)), some (false, .str q.2), c, d] = .ok (.nx [some (false, rsE rs), some (false, .str w), some (true, SD (q.1.foldl (tstep w) K)), some (false, .tup (q.1.map Cd.enc)), some (false, .str q.2), (q.1.getLast?.map fun c => (false, .str c.word)).or c, (q.1.getLast?.map fun c => (false, c.told)).or d]) := by
      refine exs_pre (fun p2 ρ => ρ = [some (false, rsE rs), some (false, .str w), some (true, SD (p2.foldl (tstep w) K)), some (false, .tup (q.1.map Cd.enc)), some (false, .str q.2), (p2.getLast?.map fun c => (false, .str c.word)).or c, (p2.getLast?.map fun c => (false, c.told)).or d]) (l := q.1) (enc := Cd.enc) (by simp) (by simp) (fun p2 cd post2 ρ e5 e6 => ?_) fun ρ e6 => ?_
      · subst e6
        have hz2 : (p2.foldl (tstep w) K).length ≤ 54 := by
          have e7 := tfold_len w p2 K
          have e8 := h.l q hq
          rw [e5] at e8
          simp at e8
          omega
        generalize hK2 : p2.foldl (tstep w) K = K2 at hz2
        refine ⟨[some (false, rsE rs), some (false, .str w), some (true, SD K2), some (false, .tup (q.1.map Cd.enc)), some (false, .str q.2), some (false, .str cd.word), some (false, cd.told)], by simp [bindT, bindTs, setR, Cd.enc], ?_⟩
        refine ⟨_, .inl ?_, rfl⟩
        have hs : tstep w K2 cd = if cd.word = w then kins K2 cd.told else K2 := rfl
        by_cases hw : cd.word = w
        · rw [if_pos hw] at hs
          have h5 : K2.length < sizeLine := by rw [sz_line]; omega
          have hd : dsetG 0 K2 (K2.map fun _ => D.bl true) (.fz, cd.told) (.fz, .bl true) = .ok (SD (kins K2 cd.told)) := by
            unfold dsetG
            rw [if_pos ⟨told_key cd, rfl, h5⟩, dput_true]
          subst hw
          simp [ownD, sd_atoms, told_atom, hd, putO, hK2, hs]
        · rw [if_neg hw] at hs
          simp [hw, hK2, hs]
      · subst e6; simp
    exact ⟨_, .inl hin, ⟨_, _, _, _, by rw [List.foldl_append, hK]; rfl⟩⟩
  · subst e2
    rw [show rs.foldl (tfold w) [] = (toldD w rs).foldl kins [] from tstep_rules w rs []]
    simp
theorem toldD_append (w : List Nat) (a b : List Rule) : toldD w (a ++ b) = toldD w a ++ toldD w b := by
  unfold toldD condsOf; rw [List.flatMap_append, List.filterMap_append]
theorem toldD_one (w : List Nat) (q : Rule) : toldD w [q] = (q.1.filter fun c => decide (c.word = w)).map Cd.told := by
  unfold toldD condsOf
  rw [List.flatMap_cons, List.flatMap_nil, List.append_nil]
  induction q.1 with
  | nil => rfl
  | cons c r ih =>
    rw [List.filterMap_cons, List.filter_cons, ih]
    by_cases h : c.word = w <;> simp [h]
theorem toldD_atoms (w : List Nat) (rs : List Rule) : (toldD w rs).all D.atom = true := by
  rw [List.all_eq_true]
  intro d hd
  unfold toldD at hd
  obtain ⟨c, _, e⟩ := List.mem_filterMap.mp hd
  split at e <;> cases e
  exact told_atom c
theorem ltold_eq (rs : List Rule) (w : List Nat) (h : RsOk rs) (r : D) (hr : setG (.fz, .lst (toldD w rs)) = some (.ow, r)) : f_law_told [rsE rs, .str w] = .ok (.ow, r) := by
  unfold f_law_told bf_law_told
  refine runF_of (.ok (.rt .ow r)) ?_ rfl
  rw [exs_seq (ρ' := [some (false, rsE rs), some (false, .str w), some (false, .lst []), none, none, none, none]) (by simp [lstG, lmo])]
  refine exs_pre (fun p ρ => ∃ a b c d, ρ = [some (false, rsE rs), some (false, .str w), some (false, .lst (toldD w p)), a, b, c, d]) (l := rs) (enc := ruE) (by simp) ⟨_, _, _, _, rfl⟩ (fun p q post ρ e ⟨a, b, c, d, e2⟩ => ?_) fun ρ ⟨a, b, c, d, e2⟩ => ?_
  · subst e2
    have hsub : RsOk p := h.sub (by rw [e]; exact List.sublist_append_left _ _)
    have hq : q ∈ rs := by rw [e]; simp
    have hz := toldD_len w p hsub
    have hl6 := h.l q hq
    have hl : lcK tf_law_told (.var 6) [5, 6] (.tp [(.nm 5), (.nm 6)]) (.so (.op .eq (.var 5) (.var 1))) [some (false, rsE rs), some (false, .str w), some (false, .lst (toldD w p)), some (false, .tup (q.1.map Cd.enc)), some (false, .str q.2), c, d] (q.1.map Cd.enc) = .ok (.ow, .lst (toldD w [q])) := by
      rw [toldD_one]
      refine lcK_at (fun c : Cd => decide (c.word = w)) Cd.told (by rw [sz_line]; omega) told_atom fun x hx => ⟨[some (false, rsE rs), some (false, .str w), some (false, .lst (toldD w p)), some (false, .tup (q.1.map Cd.enc)), some (false, .str q.2), some (false, .str x.word), some (false, x.told)], by simp [wipeR, bindT, bindTs, setR, Cd.enc], by simp, fun _ => by simp [told_atom]⟩
    have hadd : addG (.fz, .lst (toldD w p)) (.ow, .lst (toldD w [q])) = some (.ow, .lst (toldD w (p ++ [q]))) := by
      have h1 : (toldD w [q]).length ≤ 6 := by
        rw [toldD_one, List.length_map]; exact Nat.le_trans (List.length_filter_le _ _) hl6
      rw [add_lst (by rw [sz_line]; omega) (elOk_atoms (toldD_atoms _ _)) (elOk_atoms (toldD_atoms _ _)), ← toldD_append, lmo_atoms (toldD_atoms _ _)]
    exact ⟨[some (false, rsE rs), some (false, .str w), some (false, .lst (toldD w p)), some (false, .tup (q.1.map Cd.enc)), some (false, .str q.2), c, d], by simp [bindT, bindTs, setR, ruE],
      [some (false, rsE rs), some (false, .str w), some (false, .lst (toldD w (p ++ [q]))), some (false, .tup (q.1.map Cd.enc)), some (false, .str q.2), c, d], .inl (by simp [hl, hadd]), _, _, _, _, rfl⟩
  · subst e2
    simp [hr]
end K77

set_option Elab.async false
set_option linter.all false
set_option maxRecDepth 100000
set_option maxHeartbeats 4000000
/-! K77h: the days, amounts and accounts of samples. -/
namespace Pi
open PySem PySem.Spec PyProof.Rows L2
theorem sortG_ints {l : List Int} (m : Mo) : sortG (m, .lst (l.map .int)) = some (.ow, .lst ((srtI l).map .int)) := by
  unfold sortG sortL; simp only [ints_map, Option.map_some]
theorem sortG_dints {l : List Int} (m : Mo) (vs : List D) (h : l.length < 64) : sortG (m, .dic 0 (l.map .int) vs) = some (.ow, .lst ((srtI l).map .int)) := by
  unfold sortG sortL; simp only [ints_map, List.length_map, h, if_true, Option.map_some]
theorem setG_ints {l : List Int} (m : Mo) (h : l.length < 64) : setG (m, .lst (l.map .int)) = some (.ow, .lst ((srtI l.eraseDups).map .int)) := by
  unfold setG; simp only [ints_map, h, if_true]
theorem srtS_nil : srtS [] = [] := rfl
theorem sortG_strs {l : List (List Nat)} (m : Mo) (h : l.length < 64) : sortG (m, .lst (l.map .str)) = some (.ow, .lst ((srtS l).map .str)) := by
  cases l with
  | nil => rfl
  | cons a r =>
    unfold sortG sortL
    have : ints? ((a :: r).map D.str) = none := rfl
    simp only [this, strs_map, h, if_true, Option.map_some]
theorem setG_strs {l : List (List Nat)} (m : Mo) (h : l.length < 64) : setG (m, .lst (l.map .str)) = some (.ow, .lst ((srtS l.eraseDups).map .str)) := by
  cases l with
  | nil => simp [setG, ints?, srtI, srtS]
  | cons a r =>
    unfold setG
    have : ints? ((a :: r).map D.str) = none := rfl
    simp only [this, strs_map, h, if_true]
theorem upd_true {m : Mo} (ks ls : List D) (hm : m ≠ .bo) (h : ks.length + ls.length ≤ sizeLine) : updG 0 ks (ks.map fun _ => .bl true) (m, SD ls) = .ok (SD (ls.foldl kins ks)) := by
  unfold updG
  simp only
  rw [if_pos ⟨trivial, hm, sd_atoms ls, h, by simp⟩, dputs_true]
theorem dset_true {m n : Mo} (ks : List D) (k : D) (h : kOk 0 k = true) (z : ks.length < sizeLine) : dsetG 0 ks (ks.map fun _ => .bl true) (m, k) (n, .bl true) = .ok (SD (kins ks k)) := by
  unfold dsetG
  rw [if_pos ⟨h, rfl, z⟩, dput_true]
end Pi
namespace K77
open PySem PySem.Spec PyProof.Rows L2 Pi
def gF : Cd → Option Int | .frm i => some i | _ => none
def gT : Cd → Option Int | .til i => some i | _ => none
def gA : Cd → Option Int | .abv i => some i | _ => none
def gB : Cd → Option Int | .bel i => some i | _ => none
def gU : Cd → Option (List Nat) | .under i => some i | _ => none
def gN : Cd → Option (List Nat) | .nt i => some i | _ => none
def gW : Cd → Option (List Nat) | .wrd i => some i | _ => none
def ofI (g : Cd → Option Int) (rs : List Rule) : List Int := (condsOf rs).filterMap g
def ofS (g : Cd → Option (List Nat)) (rs : List Rule) : List (List Nat) := (condsOf rs).filterMap g
theorem toldI {w : List Nat} {g : Cd → Option Int} (h : ∀ c : Cd, (if c.word = w then some c.told else none) = (g c).map D.int) (rs : List Rule) : toldD w rs = (ofI g rs).map D.int := by
  unfold toldD ofI
  rw [List.map_filterMap]
  exact congrArg (fun f => List.filterMap f (condsOf rs)) (funext h)
theorem toldS {w : List Nat} {g : Cd → Option (List Nat)} (h : ∀ c : Cd, (if c.word = w then some c.told else none) = (g c).map D.str) (rs : List Rule) : toldD w rs = (ofS g rs).map D.str := by
  unfold toldD ofS
  rw [List.map_filterMap]
  exact congrArg (fun f => List.filterMap f (condsOf rs)) (funext h)
theorem toldF (rs : List Rule) : toldD wF rs = (ofI gF rs).map D.int := toldI (fun c => by cases c <;> simp [Cd.word, Cd.told, gF, wU, wN, wF, wT, wA, wB, wW]) rs
theorem toldT (rs : List Rule) : toldD wT rs = (ofI gT rs).map D.int := toldI (fun c => by cases c <;> simp [Cd.word, Cd.told, gT, wU, wN, wF, wT, wA, wB, wW]) rs
theorem toldA (rs : List Rule) : toldD wA rs = (ofI gA rs).map D.int := toldI (fun c => by cases c <;> simp [Cd.word, Cd.told, gA, wU, wN, wF, wT, wA, wB, wW]) rs
theorem toldB (rs : List Rule) : toldD wB rs = (ofI gB rs).map D.int := toldI (fun c => by cases c <;> simp [Cd.word, Cd.told, gB, wU, wN, wF, wT, wA, wB, wW]) rs
theorem toldU (rs : List Rule) : toldD wU rs = (ofS gU rs).map D.str := toldS (fun c => by cases c <;> simp [Cd.word, Cd.told, gU, wU, wN, wF, wT, wA, wB, wW]) rs
theorem toldN (rs : List Rule) : toldD wN rs = (ofS gN rs).map D.str := toldS (fun c => by cases c <;> simp [Cd.word, Cd.told, gN, wU, wN, wF, wT, wA, wB, wW]) rs
theorem toldW (rs : List Rule) : toldD wW rs = (ofS gW rs).map D.str := toldS (fun c => by cases c <;> simp [Cd.word, Cd.told, gW, wU, wN, wF, wT, wA, wB, wW]) rs
theorem condsOf_len (rs : List Rule) (h : RsOk rs) : (condsOf rs).length ≤ 48 := h.t
theorem condsOf_ok (rs : List Rule) (h : RsOk rs) : ∀ c ∈ condsOf rs, c.ok = true := fun c hc => by
  unfold condsOf at hc
  obtain ⟨q, hq, hc⟩ := List.mem_flatMap.mp hc
  exact h.c q hq c hc
theorem two_len (rs : List Rule) (h : RsOk rs) (f g : Cd → Option Int) (hd : ∀ c, (f c).isSome = true → g c = none) : (ofI f rs).length + (ofI g rs).length ≤ 48 := by
  have key : ∀ l : List Cd, (l.filterMap f).length + (l.filterMap g).length ≤ l.length := fun l => by
    induction l with
    | nil => simp
    | cons c r ih =>
      rw [List.filterMap_cons, List.filterMap_cons, List.length_cons]
      have := hd c
      cases hf : f c with
      | none =>
        cases hg : g c with
        | none => simp only; omega
        | some b => simp only [List.length_cons]; omega
      | some a =>
        rw [hf] at this
        rw [this rfl]
        simp only [List.length_cons]; omega
  exact Nat.le_trans (key _) (condsOf_len rs h)
theorem two_lenS (rs : List Rule) (h : RsOk rs) (f g : Cd → Option (List Nat)) (hd : ∀ c, (f c).isSome = true → g c = none) : (ofS f rs).length + (ofS g rs).length ≤ 48 := by
  have key : ∀ l : List Cd, (l.filterMap f).length + (l.filterMap g).length ≤ l.length := fun l => by
    induction l with
    | nil => simp
    | cons c r ih =>
      rw [List.filterMap_cons, List.filterMap_cons, List.length_cons]
      have := hd c
      cases hf : f c with
      | none =>
        cases hg : g c with
        | none => simp only; omega
        | some b => simp only [List.length_cons]; omega
      | some a =>
        rw [hf] at this
        rw [this rfl]
        simp only [List.length_cons]; omega
  exact Nat.le_trans (key _) (condsOf_len rs h)
theorem ninsL_le {α : Type} [DecidableEq α] : ∀ (ls ks : List α), (ls.foldl nins ks).length ≤ ks.length + ls.length
  | [], ks => by simp
  | a :: r, ks => by
    rw [List.foldl_cons, List.length_cons]
    have := ninsL_le r (nins ks a)
    have : (nins ks a).length ≤ ks.length + 1 := by unfold nins; split <;> simp
    omega
theorem whole_eq (a b c : Int) : fis_whole [.int a, .int b, .int c] = .ok (.fz, .bl (decide (b ≤ a) && decide (a ≤ c))) := by
  unfold fis_whole bfis_whole
  simp [runF_eq, dnl]
theorem isday_eq (a : Int) : fis_day [.int a] = .ok (.fz, .bl (decide (0 ≤ a) && decide (a ≤ 100000))) := by
  unfold fis_day bfis_day
  simp [runF_eq, tfis_day, glC, callG, whole_eq]
theorem isamount_eq (a : Int) : fis_amount [.int a] = .ok (.fz, .bl (decide (-1000000000000000 ≤ a) && decide (a ≤ 1000000000000000))) := by
  unfold fis_amount bfis_amount
  simp [runF_eq, tfis_amount, glC, callG, whole_eq]
/-- the one beyond, if it may be -/
def nstep (lo hi : Int) (ks : List Int) (x : Int) : List Int := if lo ≤ x + 1 ∧ x + 1 ≤ hi then nins ks (x + 1) else ks
theorem nstep_le (lo hi : Int) : ∀ (ls ks : List Int), (ls.foldl (nstep lo hi) ks).length ≤ ks.length + ls.length
  | [], ks => by simp
  | a :: r, ks => by
    rw [List.foldl_cons, List.length_cons]
    have := nstep_le lo hi r (nstep lo hi ks a)
    have : (nstep lo hi ks a).length ≤ ks.length + 1 := by unfold nstep nins; split <;> (try split) <;> simp
    omega
theorem nstep_nodup (lo hi : Int) : ∀ (ls ks : List Int), ks.Nodup → (ls.foldl (nstep lo hi) ks).Nodup
  | [], ks, h => h
  | a :: r, ks, h => by
    rw [List.foldl_cons]
    refine nstep_nodup lo hi r _ ?_
    unfold nstep
    split
    · exact nins_nodup h
    · exact h
theorem nstep_mem (lo hi : Int) {x : Int} : ∀ (ls ks : List Int), x ∈ ls.foldl (nstep lo hi) ks ↔ x ∈ ks ∨ ∃ y ∈ ls, lo ≤ y + 1 ∧ y + 1 ≤ hi ∧ x = y + 1
  | [], ks => by simp
  | a :: r, ks => by
    rw [List.foldl_cons, nstep_mem lo hi r]
    unfold nstep
    split
    · rename_i h
      rw [nins_mem]
      constructor
      · rintro ((h1 | h1) | ⟨y, hy, h2⟩)
        · exact .inl h1
        · exact .inr ⟨a, List.mem_cons_self, h.1, h.2, h1⟩
        · exact .inr ⟨y, List.mem_cons_of_mem _ hy, h2⟩
      · rintro (h1 | ⟨y, hy, h2, h3, h4⟩)
        · exact .inl (.inl h1)
        · rcases List.mem_cons.mp hy with e | hy
          · subst e; exact .inl (.inr h4)
          · exact .inr ⟨y, hy, h2, h3, h4⟩
    · rename_i h
      constructor
      · rintro (h1 | ⟨y, hy, h2⟩)
        · exact .inl h1
        · exact .inr ⟨y, List.mem_cons_of_mem _ hy, h2⟩
      · rintro (h1 | ⟨y, hy, h2, h3, h4⟩)
        · exact .inl h1
        · rcases List.mem_cons.mp hy with e | hy
          · subst e; exact absurd ⟨h2, h3⟩ h
          · exact .inr ⟨y, hy, h2, h3, h4⟩
/-- days, amounts: the first one, those told, those beyond -/
def canI (z : Int) (as bs : List Int) (hi : Int) : List Int := srtI (z :: as ++ (bs.filter fun x => decide (x < hi)).map (· + 1)).eraseDups
theorem can_prog (z : Int) (as bs : List Int) (lo hi : Int) (hb : ∀ b ∈ bs, lo ≤ b + 1) : srtI ((bs.foldl nins []).foldl (nstep lo hi) ((as.foldl nins []).foldl nins [z])) = canI z as bs hi := by
  unfold canI
  refine srtI_same (nstep_nodup _ _ _ _ (ninsL_nodup (by simp))) (nodup_eraseDups _) fun x => ?_
  rw [nstep_mem, ninsL_mem, List.mem_eraseDups]
  simp only [ninsL_mem, List.mem_cons, List.mem_append, List.mem_map, List.mem_filter, List.not_mem_nil, false_or, or_false, decide_eq_true_eq]
  constructor
  · rintro ((h | h) | ⟨y, hy, h1, h2, h3⟩)
    · exact .inl (.inl h)
    · exact .inl (.inr h)
    · exact .inr ⟨y, ⟨hy, by omega⟩, h3.symm⟩
  · rintro ((h | h) | ⟨y, ⟨hy, h1⟩, h3⟩)
    · exact .inl (.inl h)
    · exact .inl (.inr h)
    · exact .inr ⟨y, hy, hb y hy, by omega, h3.symm⟩
theorem can_law (z : Int) (as bs : List Int) (hi : Int) : srtI ([z] ++ srtI as.eraseDups ++ ((srtI bs.eraseDups).filter fun x => decide (x < hi)).map (· + 1)).eraseDups = canI z as bs hi := by
  unfold canI
  refine srtI_same (nodup_eraseDups _) (nodup_eraseDups _) fun x => ?_
  rw [List.mem_eraseDups, List.mem_eraseDups]
  have hs : ∀ (l : List Int) (y : Int), y ∈ srtI l.eraseDups ↔ y ∈ l := fun l y => by rw [(srtI_perm _).mem_iff, List.mem_eraseDups]
  simp only [List.mem_cons, List.mem_append, List.mem_map, List.mem_filter, List.not_mem_nil, or_false, hs]

theorem f_days_eq (rs : List Rule) (h : RsOk rs) : f_days [rsE rs] = .ok (.ow, .lst ((canI 0 (ofI gF rs) (ofI gT rs) 100000).map .int)) := by
  unfold f_days bf_days
  have hz := two_len rs h gF gT (by intro c hc; cases c <;> first | rfl | (cases hc; done))
  have hz1 := ninsL_le (ofI gF rs) []
  have hz2 := ninsL_le (ofI gT rs) []
  have hz3 := ninsL_le ((ofI gF rs).foldl nins []) [(0 : Int)]
  simp only [List.length_nil, List.length_cons, Nat.zero_add] at hz1 hz2 hz3
  have e1 := told_eq rs wF h
  rw [toldF, show (((ofI gF rs).map D.int).foldl kins []) = ((ofI gF rs).foldl nins []).map .int from kinsL_int _ []] at e1
  have e2 := told_eq rs wT h
  rw [toldT, show (((ofI gT rs).map D.int).foldl kins []) = ((ofI gT rs).foldl nins []).map .int from kinsL_int _ []] at e2
  have hK : ((((ofI gF rs).foldl nins []).map D.int).foldl kins [.int 0]) = (((ofI gF rs).foldl nins []).foldl nins [0]).map .int := kinsL_int _ [0]
  have hb : ∀ b ∈ ofI gT rs, (0 : Int) ≤ b + 1 := fun b hb => by
    unfold ofI at hb
    obtain ⟨c, hc, e⟩ := List.mem_filterMap.mp hb
    have := condsOf_ok rs h c hc
    cases c <;> first | (cases e; done) | skip
    cases e
    simp [Cd.ok] at this
    omega
  have e3 := can_prog 0 (ofI gF rs) (ofI gT rs) 0 100000 hb
  generalize ofI gF rs = as at *
  generalize ofI gT rs = bs at *
  generalize hA : as.foldl nins [] = A at *
  generalize hB : bs.foldl nins [] = B at *
  generalize hC : A.foldl nins [(0 : Int)] = C at *
  refine runF_of (.ok (.rt .ow (.lst ((canI 0 as bs 100000).map .int)))) ?_ rfl
  rw [exs_seq (ρ' := [some (false, rsE rs), some (true, SD [.int 0]), none]) (by simp [dicG, dputs, dput, kmem, kOk, D.key])]
  rw [exs_seq (ρ' := [some (false, rsE rs), some (true, SD (C.map .int)), none]) (by
    have := upd_true (m := .ow) [.int 0] (A.map .int) (by decide) (by rw [sz_line, List.length_map]; simp; omega)
    rw [hK] at this
    simp only [wF, wT, wA, wB] at e1
    simp [ownD, tf_days, callG, e1, putO]
    simp at this
    rw [this]
    rfl)]
  refine exs_pre (fun p ρ => ∃ a, ρ = [some (false, rsE rs), some (true, SD ((p.foldl (nstep 0 100000) C).map .int)), a]) (l := B) (enc := D.int) (by
    simp only [wF, wT, wA, wB] at e2
    simp [tf_days, callG, e2]) ⟨_, rfl⟩ (fun p x post ρ e ⟨a, e4⟩ => ?_) fun ρ ⟨a, e4⟩ => ?_
  · subst e4
    have hl := nstep_le 0 100000 p C
    have hp : p.length ≤ B.length := by rw [e]; simp
    generalize hP : p.foldl (nstep 0 100000) C = P at *
    have hr : (p ++ [x]).foldl (nstep 0 100000) C = nstep 0 100000 P x := by rw [List.foldl_append, hP]; rfl
    refine ⟨[some (false, rsE rs), some (true, SD (P.map .int)), some (false, .int x)], by simp [bindT, setR], [some (false, rsE rs), some (true, SD ((nstep 0 100000 P x).map .int)), some (false, .int x)], .inl ?_, ?_⟩
    · have hd := dset_true (m := .fz) (n := .fz) (P.map .int) (.int (x + 1)) rfl (by rw [sz_line, List.length_map]; omega)
      rw [kins_int] at hd
      by_cases hq : 0 ≤ x + 1 ∧ x + 1 ≤ 100000
      · have hn : nstep 0 100000 P x = nins P (x + 1) := if_pos hq
        simp at hd
        simp [tf_days, callG, isday_eq, hq, ownD, hd, putO, hn]
      · have hn : nstep 0 100000 P x = P := if_neg hq
        have hq' : (decide ((0 : Int) ≤ x + 1) && decide (x + 1 ≤ 100000)) = false := by
          rw [Bool.and_eq_false_iff, decide_eq_false_iff_not, decide_eq_false_iff_not]
          exact Decidable.not_and_iff_or_not.mp hq
        have e5 : fis_day [.int (x + 1)] = .ok (.fz, .bl false) := by rw [isday_eq, hq']
        simp [tf_days, callG, e5, hn]
    · rw [hr]; exact ⟨_, rfl⟩
  · subst e4
    have hl := nstep_le 0 100000 B C
    have hs := sortG_dints (l := B.foldl (nstep 0 100000) C) .bo ((B.foldl (nstep 0 100000) C).map D.int |>.map fun _ => .bl true) (by omega)
    rw [e3] at hs
    simp [hs]

theorem f_amounts_eq (rs : List Rule) (h : RsOk rs) : f_amounts [rsE rs] = .ok (.ow, .lst ((canI (-1000000000000000) (ofI gB rs) (ofI gA rs) 1000000000000000).map .int)) := by
  unfold f_amounts bf_amounts
  have hz := two_len rs h gB gA (by intro c hc; cases c <;> first | rfl | (cases hc; done))
  have hz1 := ninsL_le (ofI gB rs) []
  have hz2 := ninsL_le (ofI gA rs) []
  have hz3 := ninsL_le ((ofI gB rs).foldl nins []) [((-1000000000000000) : Int)]
  simp only [List.length_nil, List.length_cons, Nat.zero_add] at hz1 hz2 hz3
  have e1 := told_eq rs wB h
  rw [toldB, show (((ofI gB rs).map D.int).foldl kins []) = ((ofI gB rs).foldl nins []).map .int from kinsL_int _ []] at e1
  have e2 := told_eq rs wA h
  rw [toldA, show (((ofI gA rs).map D.int).foldl kins []) = ((ofI gA rs).foldl nins []).map .int from kinsL_int _ []] at e2
  have hK : ((((ofI gB rs).foldl nins []).map D.int).foldl kins [.int (-1000000000000000)]) = (((ofI gB rs).foldl nins []).foldl nins [(-1000000000000000)]).map .int := kinsL_int _ [(-1000000000000000)]
  have hb : ∀ b ∈ ofI gA rs, ((-1000000000000000) : Int) ≤ b + 1 := fun b hb => by
    unfold ofI at hb
    obtain ⟨c, hc, e⟩ := List.mem_filterMap.mp hb
    have := condsOf_ok rs h c hc
    cases c <;> first | (cases e; done) | skip
    cases e
    simp [Cd.ok] at this
    omega
  have e3 := can_prog (-1000000000000000) (ofI gB rs) (ofI gA rs) (-1000000000000000) 1000000000000000 hb
  generalize ofI gB rs = as at *
  generalize ofI gA rs = bs at *
  generalize hA : as.foldl nins [] = A at *
  generalize hB : bs.foldl nins [] = B at *
  generalize hC : A.foldl nins [((-1000000000000000) : Int)] = C at *
  refine runF_of (.ok (.rt .ow (.lst ((canI (-1000000000000000) as bs 1000000000000000).map .int)))) ?_ rfl
  rw [exs_seq (ρ' := [some (false, rsE rs), some (true, SD [.int (-1000000000000000)]), none]) (by simp [dicG, dputs, dput, kmem, kOk, D.key, tf_amounts, glC])]
  rw [exs_seq (ρ' := [some (false, rsE rs), some (true, SD (C.map .int)), none]) (by
    have := upd_true (m := .ow) [.int (-1000000000000000)] (A.map .int) (by decide) (by rw [sz_line, List.length_map]; simp; omega)
    rw [hK] at this
    simp only [wF, wT, wA, wB] at e1
    simp [ownD, tf_amounts, callG, e1, putO]
    simp at this
    rw [this]
    rfl)]
  refine exs_pre (fun p ρ => ∃ a, ρ = [some (false, rsE rs), some (true, SD ((p.foldl (nstep (-1000000000000000) 1000000000000000) C).map .int)), a]) (l := B) (enc := D.int) (by
    simp only [wF, wT, wA, wB] at e2
    simp [tf_amounts, callG, e2]) ⟨_, rfl⟩ (fun p x post ρ e ⟨a, e4⟩ => ?_) fun ρ ⟨a, e4⟩ => ?_
  · subst e4
    have hl := nstep_le (-1000000000000000) 1000000000000000 p C
    have hp : p.length ≤ B.length := by rw [e]; simp
    generalize hP : p.foldl (nstep (-1000000000000000) 1000000000000000) C = P at *
    have hr : (p ++ [x]).foldl (nstep (-1000000000000000) 1000000000000000) C = nstep (-1000000000000000) 1000000000000000 P x := by rw [List.foldl_append, hP]; rfl
    refine ⟨[some (false, rsE rs), some (true, SD (P.map .int)), some (false, .int x)], by simp [bindT, setR], [some (false, rsE rs), some (true, SD ((nstep (-1000000000000000) 1000000000000000 P x).map .int)), some (false, .int x)], .inl ?_, ?_⟩
    · have hd := dset_true (m := .fz) (n := .fz) (P.map .int) (.int (x + 1)) rfl (by rw [sz_line, List.length_map]; omega)
      rw [kins_int] at hd
      by_cases hq : (-1000000000000000) ≤ x + 1 ∧ x + 1 ≤ 1000000000000000
      · have hn : nstep (-1000000000000000) 1000000000000000 P x = nins P (x + 1) := if_pos hq
        simp at hd
        simp [tf_amounts, callG, isamount_eq, hq, ownD, hd, putO, hn]
      · have hn : nstep (-1000000000000000) 1000000000000000 P x = P := if_neg hq
        have hq' : (decide (((-1000000000000000) : Int) ≤ x + 1) && decide (x + 1 ≤ 1000000000000000)) = false := by
          rw [Bool.and_eq_false_iff, decide_eq_false_iff_not, decide_eq_false_iff_not]
          exact Decidable.not_and_iff_or_not.mp hq
        have e5 : fis_amount [.int (x + 1)] = .ok (.fz, .bl false) := by rw [isamount_eq, hq']
        simp [tf_amounts, callG, e5, hn]
    · rw [hr]; exact ⟨_, rfl⟩
  · subst e4
    have hl := nstep_le (-1000000000000000) 1000000000000000 B C
    have hs := sortG_dints (l := B.foldl (nstep (-1000000000000000) 1000000000000000) C) .bo ((B.foldl (nstep (-1000000000000000) 1000000000000000) C).map D.int |>.map fun _ => .bl true) (by omega)
    rw [e3] at hs
    simp [hs]
end K77

set_option Elab.async false
set_option linter.all false
set_option maxRecDepth 100000
set_option maxHeartbeats 4000000
/-! K77i: the accounts of samples; the law's parts. -/
namespace Pi
open PySem PySem.Spec PyProof.Rows L2
theorem sortG_dstrs {l : List (List Nat)} (m : Mo) (vs : List D) (h : l.length < 64) : sortG (m, .dic 0 (l.map .str) vs) = some (.ow, .lst ((srtS l).map .str)) := by
  cases l with
  | nil => rfl
  | cons a r =>
    unfold sortG sortL
    have : ints? ((a :: r).map D.str) = none := rfl
    simp only [this, strs_map, List.length_map, h, if_true, Option.map_some]
theorem srtS_same {a b : List (List Nat)} (ha : a.Nodup) (hb : b.Nodup) (h : ∀ x, x ∈ a ↔ x ∈ b) : srtS a = srtS b :=
  srtS_uniq ((srtS_perm a).trans ((List.perm_ext_iff_of_nodup ha hb).mpr h)) (srtS_sorted a)
theorem cut_lst (a : List D) (n : Nat) (m : Mo) (h : elOk m a = true) : slG (m, .lst a) none (some (n : Int)) = some (lmo (a.take n), .lst (a.take n)) := by
  unfold slG Pi.cutD
  simp only [h, if_true, HT.sIx_none, HT.sIx_nat, List.drop_zero, Nat.sub_zero]
  rw [← List.take_eq_take_min]
theorem str_atoms (l : List (List Nat)) : (l.map D.str).all D.atom = true := atoms_map _ (fun _ => rfl) l
theorem int_atoms (l : List Int) : (l.map D.int).all D.atom = true := atoms_map _ (fun _ => rfl) l
end Pi
namespace K77
open PySem PySem.Spec PyProof.Rows L2 Pi
def lets : List Nat := [97,98,99,100,101,102,103,104,105,106,107,108,109,110,111,112,113,114,115,116,117,118,119,120,121,122]
def spareL : List (List Nat) := lets.map (fun c => [c]) ++ lets.map (fun c => [97, c])
def spare1 (us ns : List (List Nat)) : List (List Nat) := (spareL.filter fun s => !decide (s ∈ us ∨ s ∈ ns)).take 1
def canS (us ns : List (List Nat)) : List (List Nat) := srtS ((us ++ ns).eraseDups ++ spare1 us ns)
theorem take1_nodup {α : Type} : ∀ l : List α, (l.take 1).Nodup
  | [] => by simp
  | a :: r => by simp
theorem canS_any {us ns K : List (List Nat)} (hk : K.Nodup) (hm : ∀ s, s ∈ K ↔ s ∈ us ∨ s ∈ ns) : srtS (K ++ (spareL.filter fun s => !decide (s ∈ K)).take 1) = canS us ns := by
  have e : (spareL.filter fun s => !decide (s ∈ K)) = spareL.filter fun s => !decide (s ∈ us ∨ s ∈ ns) := by
    refine List.filter_congr fun s _ => ?_
    rw [decide_eq_decide.mpr (hm s)]
  rw [e]
  unfold canS
  have nd : ∀ L : List (List Nat), L.Nodup → (∀ s, s ∈ L ↔ s ∈ us ∨ s ∈ ns) → (L ++ spare1 us ns).Nodup := fun L hl hL => by
    rw [List.nodup_append]
    refine ⟨hl, take1_nodup _, fun a ha b hb e => ?_⟩
    subst e
    have := List.mem_of_mem_take hb
    rw [List.mem_filter] at this
    simp only [Bool.not_eq_true', decide_eq_false_iff_not] at this
    exact this.2 ((hL a).mp ha)
  have hE : ∀ s, s ∈ (us ++ ns).eraseDups ↔ s ∈ us ∨ s ∈ ns := fun s => by rw [List.mem_eraseDups, List.mem_append]
  refine srtS_same (nd K hk hm) (nd _ (nodup_eraseDups _) hE) fun x => ?_
  rw [List.mem_append, List.mem_append, hm, hE]
  rfl
theorem faccounts_eq (rs : List Rule) (h : RsOk rs) : f_accounts [rsE rs] = .ok (.ow, .lst ((canS (ofS gU rs) (ofS gN rs)).map .str)) := by
  unfold f_accounts bf_accounts
  have hz := two_lenS rs h gU gN (by intro c hc; cases c <;> first | rfl | (cases hc; done))
  have hz1 := ninsL_le (ofS gU rs) []
  have hz2 := ninsL_le (ofS gN rs) []
  have hz3 := ninsL_le ((ofS gN rs).foldl nins []) ((ofS gU rs).foldl nins [])
  simp only [List.length_nil, Nat.zero_add] at hz1 hz2
  have e1 := told_eq rs wU h
  rw [toldU, show (((ofS gU rs).map D.str).foldl kins []) = ((ofS gU rs).foldl nins []).map .str from kinsL_str _ []] at e1
  have e2 := told_eq rs wN h
  rw [toldN, show (((ofS gN rs).map D.str).foldl kins []) = ((ofS gN rs).foldl nins []).map .str from kinsL_str _ []] at e2
  have hK := kinsL_str ((ofS gN rs).foldl nins []) ((ofS gU rs).foldl nins [])
  have hc : srtS ((((ofS gN rs).foldl nins []).foldl nins ((ofS gU rs).foldl nins [])) ++ (spareL.filter fun s => !decide (s ∈ (((ofS gN rs).foldl nins []).foldl nins ((ofS gU rs).foldl nins [])))).take 1) = canS (ofS gU rs) (ofS gN rs) :=
    canS_any (ninsL_nodup (ninsL_nodup (by simp))) fun s => by rw [ninsL_mem, ninsL_mem, ninsL_mem]; simp
  generalize canS (ofS gU rs) (ofS gN rs) = F at *
  generalize ofS gU rs = as at *
  generalize ofS gN rs = bs at *
  generalize hA : as.foldl nins [] = A at *
  generalize hB : bs.foldl nins [] = B at *
  generalize hC : B.foldl nins A = C at *
  refine runF_of (.ok (.rt .ow (.lst (F.map .str)))) ?_ rfl
  rw [exs_seq (ρ' := [some (false, rsE rs), some (true, SD (A.map .str)), none, none, none]) (by
    simp only [wU] at e1
    simp [tf_accounts, callG, e1])]
  rw [exs_seq (ρ' := [some (false, rsE rs), some (true, SD (C.map .str)), none, none, none]) (by
    have := upd_true (m := .ow) (A.map .str) (B.map .str) (by decide) (by rw [sz_line, List.length_map, List.length_map]; omega)
    rw [hK] at this
    simp only [wN] at e2
    simp at this
    simp [ownD, tf_accounts, callG, e2, putO, this])]
  have hit : evi tf_accounts (.of (.op .add (.bi .list (.cons (.glob 6) .nil)) (.lc (.op .add (.con (.str [97])) (.var 4)) [4] (.nm 4) (.of (.glob 6)) .no))) [some (false, rsE rs), some (true, SD (C.map .str)), none, none, none] = .ok (spareL.map .str) := by rfl
  have hl : lcK tf_accounts (.var 3) [3] (.nm 3) (.so (.op (.inn true) (.var 3) (.var 1))) [some (false, rsE rs), some (true, SD (C.map .str)), none, none, none] (spareL.map .str) = .ok (.ow, .lst ((spareL.filter fun s => !decide (s ∈ C)).map .str)) :=
    lcK_at (fun s => !decide (s ∈ C)) D.str (by decide) (fun _ => rfl) fun x hx => by
      refine ⟨[some (false, rsE rs), some (true, SD (C.map .str)), none, some (false, .str x), none], by simp [wipeR, bindT, setR], ?_, fun _ => by simp⟩
      have hk := kmem_str x C
      simp [blG, inD2, D.nkey, D.key, hk]
  rw [exs_seq (ρ' := [some (false, rsE rs), some (true, SD (C.map .str)), some (false, .lst ((spareL.filter fun s => !decide (s ∈ C)).map .str)), none, none]) (by
    rw [exS_set, ev_lc, hit, rb_ok, hl]; rfl)]
  generalize (spareL.filter fun s => !decide (s ∈ C)) = S at *
  have h1 := cut_lst (S.map .str) 1 .fz elOk_fz
  rw [← List.map_take, lmo_atoms (str_atoms _)] at h1
  have ht : (S.take 1).length ≤ 1 := by rw [List.length_take]; omega
  have h2 := add_lst (m := .ow) (n := .ow) (a := C.map D.str) (b := (S.take 1).map .str) (by rw [sz_line, List.length_map, List.length_map]; omega) (elOk_atoms (str_atoms _)) (elOk_atoms (str_atoms _))
  rw [← List.map_append, lmo_atoms (str_atoms _)] at h2
  have h3 := sortG_strs (l := C ++ S.take 1) .ow (by rw [List.length_append]; omega)
  rw [hc] at h3
  have h4 : listG (.bo, SD (C.map .str)) = some (.ow, .lst (C.map .str)) := rfl
  have h1' : slG (Mo.fz, D.lst (List.map D.str S)) none (some 1) = some (.ow, .lst ((S.take 1).map .str)) := h1
  simp only [exs_cons_s, exS_ret, ev_bi, evs_cons_s, ev_op, ev_var, ev_sl, List.getElem?_cons_succ, List.getElem?_cons_zero, rb_ok, consK_eq, consB_eq, evs_nil_s, oK_eq, g_list, on1_one]
  simp only [Bool.true_and, atom_dic, Bool.not_false, if_true, h4, optR_some, rb_ok, opK_eq, ev_sl, ev_var, List.getElem?_cons_succ, List.getElem?_cons_zero, Bool.false_and, if_neg, slK_eq, evo_no, slK0_eq, intO_none, slK1_eq, evo_so, ev_con, someK_eq, slK2_eq, intO_some, slK3_eq, g_sorted, on1_one, og_add, op2_def]
  simp [h1', h2, h3, -List.map_take, -List.map_append]
end K77

set_option Elab.async false
set_option linter.all false
set_option maxRecDepth 100000
set_option maxHeartbeats 4000000
/-! K77j: the words of samples; the law's parts. -/
namespace Pi
open PySem PySem.Spec PyProof.Rows L2
theorem exs_it {T : Tab} {xs : Xs} {t : Tg} {it : It} {b r : Ss} {ρ : Rho} {l : List D} (h : evi T it ρ = .ok l) : exs T xs (.cons (.for t it b) r) ρ = exs T xs (.cons (.for t (.of (.con (.lst l))) b) r) ρ := by
  rw [exs_cons_s, exs_cons_s, exS_for, exS_for, h, evi_of, ev_con, rb_ok, rb_ok, items_fz, rb_ok]
end Pi
namespace K77
open PySem PySem.Spec PyProof.Rows L2 Pi
def wA25 : List Nat := List.replicate 25 97
def wB14 : List Nat := List.replicate 14 98
def wRent : List Nat := [114,101,110,116]
def wX : List Nat := [120]
def WU : List (List Nat) := [wA25, wB14, wRent, wX]
def wsB (b1 b2 b3 b4 : Bool) : List (List Nat) := (if b1 then [wA25] else []) ++ (if b2 then [wB14] else []) ++ (if b3 then [wRent] else []) ++ (if b4 then [wX] else [])
def wsC (W : List (List Nat)) : List (List Nat) := wsB (decide (wA25 ∈ W)) (decide (wB14 ∈ W)) (decide (wRent ∈ W)) (decide (wX ∈ W))
def texts0 (ws : List (List Nat)) : List (List Nat) := ws.foldl (fun found w => found ++ found.map fun t => if t ≠ [] then t ++ [32] ++ w else w) [[]]
def textsC (ws : List (List Nat)) : List (List Nat) := srtS ((texts0 ws).filter fun t => decide (t.length < 41))
theorem ltexts_B : ∀ b1 b2 b3 b4, f_law_texts [.lst ((wsB b1 b2 b3 b4).map .str)] = .ok (.ow, .lst ((textsC (wsB b1 b2 b3 b4)).map .str)) := by
  intro b1 b2 b3 b4; cases b1 <;> cases b2 <;> cases b3 <;> cases b4 <;> kernel_rfl
def restW (ws : List (List Nat)) : Ss := match bf_words with
  | .cons _ r => match r with
    | .cons (.for _ _ b) r => .cons (.for (.nm 2) (.of (.con (.lst (ws.map .str)))) b) r
    | r => r
  | r => r
theorem words_B (d : D) : ∀ b1 b2 b3 b4, exs tf_words xsC (restW (wsB b1 b2 b3 b4)) [some (false, d), some (false, .lst [.tup []]), none, none, none, none] = .ok (.rt .ow (.lst ((textsC (wsB b1 b2 b3 b4)).map .str))) := by
  intro b1 b2 b3 b4; cases b1 <;> cases b2 <;> cases b3 <;> cases b4 <;> kernel_rfl
theorem wsC_sorted {K W : List (List Nat)} (hk : K.Nodup) (hm : ∀ s, s ∈ K ↔ s ∈ W) (hu : ∀ s ∈ W, s ∈ WU) : srtS K = wsC W := by
  have h1 : ∀ b1 b2 b3 b4, (wsB b1 b2 b3 b4).Nodup ∧ SrtS (wsB b1 b2 b3 b4) := by
    unfold SrtS; decide +kernel
  have h2 : ∀ s, s ∈ wsC W ↔ s ∈ W := fun s => by
    unfold wsC wsB
    constructor
    · intro h
      simp only [List.mem_append] at h
      rcases h with ((h | h) | h) | h <;> (split at h <;> first | (simp at h; done) | (rename_i q; simp at q; simp at h; subst h; exact q))
    · intro h
      have := hu s h
      unfold WU at this
      simp only [List.mem_cons, List.not_mem_nil, or_false] at this
      simp only [List.mem_append]
      rcases this with e | e | e | e <;> subst e
      · exact .inl (.inl (.inl (by rw [if_pos (by simpa using h)]; simp)))
      · exact .inl (.inl (.inr (by rw [if_pos (by simpa using h)]; simp)))
      · exact .inl (.inr (by rw [if_pos (by simpa using h)]; simp))
      · exact .inr (by rw [if_pos (by simpa using h)]; simp)
  have h3 := h1 (decide (wA25 ∈ W)) (decide (wB14 ∈ W)) (decide (wRent ∈ W)) (decide (wX ∈ W))
  refine (srtS_uniq (m := K) ?_ h3.2).symm
  exact (List.perm_ext_iff_of_nodup h3.1 hk).mpr fun s => (h2 s).trans (hm s).symm
theorem words_eq (rs : List Rule) (h : RsOk rs) (hu : ∀ s ∈ ofS gW rs, s ∈ WU) : f_words [rsE rs] = .ok (.ow, .lst ((textsC (wsC (ofS gW rs))).map .str)) := by
  unfold f_words
  have hz1 := ninsL_le (ofS gW rs) []
  have hz := two_lenS rs h gW gN (by intro c hc; cases c <;> first | rfl | (cases hc; done))
  simp only [List.length_nil, Nat.zero_add] at hz1
  have e1 := told_eq rs wW h
  rw [toldW, show (((ofS gW rs).map D.str).foldl kins []) = ((ofS gW rs).foldl nins []).map .str from kinsL_str _ []] at e1
  have hs := sortG_dstrs (l := (ofS gW rs).foldl nins []) .ow ((((ofS gW rs).foldl nins []).map D.str).map fun _ => .bl true) (by omega)
  rw [wsC_sorted (ninsL_nodup (by simp)) (fun s => by rw [ninsL_mem]; simp) hu] at hs
  refine runF_of (.ok (.rt .ow (.lst ((textsC (wsC (ofS gW rs))).map .str)))) ?_ rfl
  unfold bf_words
  rw [exs_seq (ρ' := [some (false, rsE rs), some (false, .lst [.tup []]), none, none, none, none]) (by kernel_rfl)]
  have hit : evi tf_words (.of (.bi .sorted (.cons (.call 0 (.cons (.var 0) (.cons (.con (.str [119,111,114,100])) .nil))) .nil))) [some (false, rsE rs), some (false, .lst [.tup []]), none, none, none, none] = .ok ((wsC (ofS gW rs)).map .str) := by
    simp only [wW] at e1
    simp [tf_words, callG, e1, hs, items_ow (str_atoms _)]
  rw [exs_it hit]
  exact words_B _ _ _ _ _
end K77

set_option Elab.async false
set_option linter.all false
set_option maxRecDepth 100000
set_option maxHeartbeats 4000000
/-! K77k: the law's parts. -/
namespace Pi
open PySem PySem.Spec PyProof.Rows L2
section
variable {T : Tab} {xs : Xs} {ρ : Rho}
theorem ev_op_of {o : Op} {a b : E} {x y z : Mo × D} (ha : ev T a ρ = .ok x) (hb : ev T b ρ = .ok y) (h : o.g x y = some z) : ev T (.op o a b) ρ = .ok z := by
  simp [ha, hb, h]
theorem ev_bi_of {b : Bi} {a : E} {x z : Mo × D} (ha : ev T a ρ = .ok x) (h : b.g [x] = some z) : ev T (.bi b (.cons a .nil)) ρ = .ok z := by
  simp [ha, h]
theorem ev_sset_of {a : E} {x z : Mo × D} (ha : ev T a ρ = .ok x) (h : setG x = some z) : ev T (.sset a) ρ = .ok z := by
  simp [ha, h]
theorem ev_lc_of {x : E} {vs : List Nat} {tg : Tg} {it : It} {c : Eo} {l : List D} {z : Mo × D} (h : evi T it ρ = .ok l) (hl : lcK T x vs tg c ρ l = .ok z) : ev T (.lc x vs tg it c) ρ = .ok z := by
  rw [ev_lc, h, rb_ok, hl]
theorem evi_ow {a : E} {l : List D} (h : ev T a ρ = .ok (.ow, .lst l)) (ha : l.all D.atom = true) : evi T (.of a) ρ = .ok l := by
  rw [evi_of, h, rb_ok, items_ow ha]
theorem evi_fz {a : E} {l : List D} (h : ev T a ρ = .ok (.fz, .lst l)) : evi T (.of a) ρ = .ok l := by
  rw [evi_of, h, rb_ok, items_fz]
theorem set_ow {i : Nat} {own : Bool} {e : E} {d : D} (h : ev T e ρ = .ok (.ow, d)) (hi : i < ρ.length) : exS T xs (.set i own e) ρ = .ok (.nx (ρ.set i (some (own, d)))) := by
  simp [h, hi]
theorem set_fz {i : Nat} {own : Bool} {e : E} {d : D} (h : ev T e ρ = .ok (.fz, d)) (hi : i < ρ.length) : exS T xs (.set i own e) ρ = .ok (.nx (ρ.set i (some (false, d)))) := by
  simp [h, hi]
end
theorem add_ints {m n : Mo} {a b : List Int} (h : a.length + b.length ≤ 100000) : addG (m, .lst (a.map .int)) (n, .lst (b.map .int)) = some (.ow, .lst ((a ++ b).map .int)) := by
  rw [add_lst (by rw [sz_line, List.length_map, List.length_map]; omega) (elOk_atoms (int_atoms _)) (elOk_atoms (int_atoms _)), ← List.map_append, lmo_atoms (int_atoms _)]
theorem add_strs {m n : Mo} {a b : List (List Nat)} (h : a.length + b.length ≤ 100000) : addG (m, .lst (a.map .str)) (n, .lst (b.map .str)) = some (.ow, .lst ((a ++ b).map .str)) := by
  rw [add_lst (by rw [sz_line, List.length_map, List.length_map]; omega) (elOk_atoms (str_atoms _)) (elOk_atoms (str_atoms _)), ← List.map_append, lmo_atoms (str_atoms _)]
end Pi
namespace K77
open PySem PySem.Spec PyProof.Rows L2 Pi
theorem ofI_len (rs : List Rule) (h : RsOk rs) (g : Cd → Option Int) : (ofI g rs).length ≤ 48 := Nat.le_trans (List.length_filterMap_le _ _) (condsOf_len rs h)
theorem ofS_len (rs : List Rule) (h : RsOk rs) (g : Cd → Option (List Nat)) : (ofS g rs).length ≤ 48 := Nat.le_trans (List.length_filterMap_le _ _) (condsOf_len rs h)
theorem ltI (rs : List Rule) (h : RsOk rs) {w : List Nat} {g : Cd → Option Int} (e : toldD w rs = (ofI g rs).map D.int) : f_law_told [rsE rs, .str w] = .ok (.ow, .lst ((srtI (ofI g rs).eraseDups).map .int)) := by
  have hl := ofI_len rs h g
  exact ltold_eq rs w h _ (by rw [e]; exact setG_ints .fz (by omega))
theorem ltS (rs : List Rule) (h : RsOk rs) {w : List Nat} {g : Cd → Option (List Nat)} (e : toldD w rs = (ofS g rs).map D.str) : f_law_told [rsE rs, .str w] = .ok (.ow, .lst ((srtS (ofS g rs).eraseDups).map .str)) := by
  have hl := ofS_len rs h g
  exact ltold_eq rs w h _ (by rw [e]; exact setG_strs .fz (by omega))
theorem srtI_len (l : List Int) : (srtI l.eraseDups).length ≤ l.length := by rw [(srtI_perm _).length_eq]; exact eraseDups_le l
theorem srtS_len (l : List (List Nat)) : (srtS l.eraseDups).length ≤ l.length := by rw [(srtS_perm _).length_eq]; exact eraseDups_le l
theorem spare_txt : ∀ s ∈ spareL, txt s = true := by decide +kernel
theorem cds_txt (rs : List Rule) (h : RsOk rs) {g : Cd → Option (List Nat)} (hg : ∀ c s, g c = some s → c.ok = true → txt s = true) : ∀ s ∈ ofS g rs, txt s = true := fun s hs => by
  unfold ofS at hs
  obtain ⟨c, hc, e⟩ := List.mem_filterMap.mp hs
  exact hg c s e (condsOf_ok rs h c hc)
theorem gU_txt : ∀ c s, gU c = some s → c.ok = true → txt s = true := fun c s e h => by
  cases c <;> first | (cases e; done) | skip
  cases e
  simp only [Cd.ok, Bool.and_eq_true] at h; exact h.2
theorem gN_txt : ∀ c s, gN c = some s → c.ok = true → txt s = true := fun c s e h => by
  cases c <;> first | (cases e; done) | skip
  cases e
  simp only [Cd.ok, Bool.and_eq_true] at h; exact h.2
abbrev partsE (rs : List Rule) (ts : List (List Nat)) : D := .tup [.lst ((canI 0 (ofI gF rs) (ofI gT rs) 100000).map .int), .lst ((canS (ofS gU rs) (ofS gN rs)).map .str), .lst ((canI (-1000000000000000) (ofI gB rs) (ofI gA rs) 1000000000000000).map .int), .lst (ts.map .str)]
def pT : Tab := tf_law_parts
theorem lparts_eq (rs : List Rule) (h : RsOk rs) (hu : ∀ s ∈ ofS gW rs, s ∈ WU) : f_law_parts [rsE rs] = .ok (.fz, partsE rs (textsC (wsC (ofS gW rs)))) := by
  unfold f_law_parts bf_law_parts
  refine runF_of (.ok (.rt .fz (partsE rs (textsC (wsC (ofS gW rs)))))) ?_ rfl
  rw [exs_seq (ρ' := [some (false, rsE rs), none, none, none, none, some (false, .int 1000000000000000), some (false, .int 100000), none, none, none, none]) (by kernel_rfl)]
  have eF := ltI rs h (toldF rs)
  have eT := ltI rs h (toldT rs)
  have eA := ltI rs h (toldA rs)
  have eB := ltI rs h (toldB rs)
  have eU := ltS rs h (toldU rs)
  have eN := ltS rs h (toldN rs)
  have eW := ltS rs h (toldW rs)
  have zFT := two_len rs h gF gT (by intro c hc; cases c <;> first | rfl | (cases hc; done))
  have zBA := two_len rs h gB gA (by intro c hc; cases c <;> first | rfl | (cases hc; done))
  have zUN := two_lenS rs h gU gN (by intro c hc; cases c <;> first | rfl | (cases hc; done))
  have zF := srtI_len (ofI gF rs)
  have zT := srtI_len (ofI gT rs)
  have zA := srtI_len (ofI gA rs)
  have zB := srtI_len (ofI gB rs)
  have zU := srtS_len (ofS gU rs)
  have zN := srtS_len (ofS gN rs)
  have cD := can_law 0 (ofI gF rs) (ofI gT rs) 100000
  have cA := can_law (-1000000000000000) (ofI gB rs) (ofI gA rs) 1000000000000000
  simp only [wF, wT, wA, wB, wU, wN, wW] at eF eT eA eB eU eN eW
  -- days
  rw [exs_seq (ρ' := [some (false, rsE rs), some (false, .lst ((canI 0 (ofI gF rs) (ofI gT rs) 100000).map .int)), none, none, none, some (false, .int 1000000000000000), some (false, .int 100000), none, none, none, none]) (by
    generalize srtI (ofI gF rs).eraseDups = F at *
    generalize srtI (ofI gT rs).eraseDups = T at *
    have hl : lcK tf_law_parts (.op .add (.var 8) (.con (.int 1))) [8] (.nm 8) (.so (.op (.cm .lt) (.var 8) (.var 6))) [some (false, rsE rs), none, none, none, none, some (false, .int 1000000000000000), some (false, .int 100000), none, none, none, none] (T.map .int) = .ok (.ow, .lst (((T.filter fun x => decide (x < 100000)).map (· + 1)).map .int)) := by
      rw [List.map_map]
      exact lcK_at (fun x : Int => decide (x < 100000)) (fun x => .int (x + 1)) (by rw [sz_line]; omega) (fun _ => rfl) fun x hx => ⟨[some (false, rsE rs), none, none, none, none, some (false, .int 1000000000000000), some (false, .int 100000), none, some (false, .int x), none, none], by simp [wipeR, bindT, setR], by simp, fun _ => by simp⟩
    have hfl := List.length_filter_le (fun x : Int => decide (x < 100000)) T
    generalize hG : ((T.filter fun x => decide (x < 100000)).map (· + 1)) = G at *
    have hGl : G.length ≤ T.length := by rw [← hG, List.length_map]; exact hfl
    have h3 := setG_ints (l := [0] ++ F ++ G) .ow (by simp; omega)
    rw [cD] at h3
    exact set_ow (ev_sset_of (ev_op_of (ev_op_of (x := (.ow, .lst ([0].map .int))) (by simp [lstG, lmo]) (y := (.ow, .lst (F.map .int))) (by simp [tf_law_parts, callG, eF]) (add_ints (by simp; omega))) (ev_lc_of (evi_ow (l := T.map .int) (by simp [tf_law_parts, callG, eT]) (int_atoms _)) hl) (add_ints (by simp; omega))) h3) (by simp))]
  -- accounts
  have hAm : ∀ s, s ∈ srtS (srtS (ofS gU rs).eraseDups ++ srtS (ofS gN rs).eraseDups).eraseDups ↔ s ∈ ofS gU rs ∨ s ∈ ofS gN rs := fun s => by
    have hs : ∀ (l : List (List Nat)) (y : List Nat), y ∈ srtS l.eraseDups ↔ y ∈ l := fun l y => by rw [(srtS_perm _).mem_iff, List.mem_eraseDups]
    rw [hs, List.mem_append, hs, hs]
  have hAn : (srtS (srtS (ofS gU rs).eraseDups ++ srtS (ofS gN rs).eraseDups).eraseDups).Nodup := (srtS_perm _).nodup_iff.mpr (nodup_eraseDups _)
  have hAc := canS_any hAn hAm
  have hAt : ∀ s ∈ srtS (srtS (ofS gU rs).eraseDups ++ srtS (ofS gN rs).eraseDups).eraseDups, txt s = true := fun s hs => ((hAm s).mp hs).elim (cds_txt rs h gU_txt s) (cds_txt rs h gN_txt s)
  have hAl : (srtS (srtS (ofS gU rs).eraseDups ++ srtS (ofS gN rs).eraseDups).eraseDups).length ≤ 48 := by
    have := srtS_len (srtS (ofS gU rs).eraseDups ++ srtS (ofS gN rs).eraseDups)
    rw [List.length_append] at this
    omega
  have hA3 := setG_strs (l := srtS (ofS gU rs).eraseDups ++ srtS (ofS gN rs).eraseDups) .ow (by rw [List.length_append]; omega)
  generalize hAe : srtS (srtS (ofS gU rs).eraseDups ++ srtS (ofS gN rs).eraseDups).eraseDups = A at *
  rw [exs_seq (ρ' := [some (false, rsE rs), some (false, .lst ((canI 0 (ofI gF rs) (ofI gT rs) 100000).map .int)), some (false, .lst (A.map .str)), none, none, some (false, .int 1000000000000000), some (false, .int 100000), none, none, none, none]) (by exact set_ow (ev_sset_of (ev_op_of (o := .add) (x := (.ow, .lst ((srtS (ofS gU rs).eraseDups).map .str))) (by simp [tf_law_parts, callG, eU]) (y := (.ow, .lst ((srtS (ofS gN rs).eraseDups).map .str))) (by simp [tf_law_parts, callG, eN]) (add_strs (by omega))) hA3) (by simp))]
  have hit : evi tf_law_parts (.of (.op .add (.bi .list (.cons (.call 1 .nil) .nil)) (.lc (.op .add (.con (.str [97])) (.var 9)) [9] (.nm 9) (.of (.call 1 .nil)) .no))) [some (false, rsE rs), some (false, .lst ((canI 0 (ofI gF rs) (ofI gT rs) 100000).map .int)), some (false, .lst (A.map .str)), none, none, some (false, .int 1000000000000000), some (false, .int 100000), none, none, none, none] = .ok (spareL.map .str) := by kernel_rfl
  have hl : lcK tf_law_parts (.var 7) [7] (.nm 7) (.so (.op (.inn true) (.var 7) (.var 2))) [some (false, rsE rs), some (false, .lst ((canI 0 (ofI gF rs) (ofI gT rs) 100000).map .int)), some (false, .lst (A.map .str)), none, none, some (false, .int 1000000000000000), some (false, .int 100000), none, none, none, none] (spareL.map .str) = .ok (.ow, .lst ((spareL.filter fun s => !decide (s ∈ A)).map .str)) :=
    lcK_at (fun s => !decide (s ∈ A)) D.str (by decide) (fun _ => rfl) fun x hx => by
      refine ⟨[some (false, rsE rs), some (false, .lst ((canI 0 (ofI gF rs) (ofI gT rs) 100000).map .int)), some (false, .lst (A.map .str)), none, none, some (false, .int 1000000000000000), some (false, .int 100000), some (false, .str x), none, none, none], by simp [wipeR, bindT, setR], ?_, fun _ => by simp⟩
      have hk := in_ls (m := .fz) (n := .fz) (a := x) (l := A) (spare_txt x hx) hAt true
      simp [hk]
  rw [exs_seq (ρ' := [some (false, rsE rs), some (false, .lst ((canI 0 (ofI gF rs) (ofI gT rs) 100000).map .int)), some (false, .lst (A.map .str)), some (false, .lst ((spareL.filter fun s => !decide (s ∈ A)).map .str)), none, some (false, .int 1000000000000000), some (false, .int 100000), none, none, none, none]) (set_ow (ev_lc_of hit hl) (by simp))]
  generalize (spareL.filter fun s => !decide (s ∈ A)) = S at *
  -- amounts
  rw [exs_seq (ρ' := [some (false, rsE rs), some (false, .lst ((canI 0 (ofI gF rs) (ofI gT rs) 100000).map .int)), some (false, .lst (A.map .str)), some (false, .lst (S.map .str)), some (false, .lst ((canI (-1000000000000000) (ofI gB rs) (ofI gA rs) 1000000000000000).map .int)), some (false, .int 1000000000000000), some (false, .int 100000), none, none, none, none]) (by
    generalize srtI (ofI gB rs).eraseDups = F at *
    generalize srtI (ofI gA rs).eraseDups = T at *
    have hl : lcK tf_law_parts (.op .add (.var 10) (.con (.int 1))) [10] (.nm 10) (.so (.op (.cm .lt) (.var 10) (.var 5))) [some (false, rsE rs), some (false, .lst ((canI 0 (ofI gF rs) (ofI gT rs) 100000).map .int)), some (false, .lst (A.map .str)), some (false, .lst (S.map .str)), none, some (false, .int 1000000000000000), some (false, .int 100000), none, none, none, none] (T.map .int) = .ok (.ow, .lst (((T.filter fun x => decide (x < 1000000000000000)).map (· + 1)).map .int)) := by
      rw [List.map_map]
      exact lcK_at (fun x : Int => decide (x < 1000000000000000)) (fun x => .int (x + 1)) (by rw [sz_line]; omega) (fun _ => rfl) fun x hx => ⟨[some (false, rsE rs), some (false, .lst ((canI 0 (ofI gF rs) (ofI gT rs) 100000).map .int)), some (false, .lst (A.map .str)), some (false, .lst (S.map .str)), none, some (false, .int 1000000000000000), some (false, .int 100000), none, none, none, some (false, .int x)], by simp [wipeR, bindT, setR], by simp, fun _ => by simp⟩
    have hfl := List.length_filter_le (fun x : Int => decide (x < 1000000000000000)) T
    generalize hG : ((T.filter fun x => decide (x < 1000000000000000)).map (· + 1)) = G at *
    have hGl : G.length ≤ T.length := by rw [← hG, List.length_map]; exact hfl
    have h3 := setG_ints (l := [(-1000000000000000)] ++ F ++ G) .ow (by simp; omega)
    rw [cA] at h3
    exact set_ow (ev_sset_of (ev_op_of (ev_op_of (x := (.ow, .lst ([(-1000000000000000)].map .int))) (by simp [lstG, lmo]) (y := (.ow, .lst (F.map .int))) (by simp [tf_law_parts, callG, eB]) (add_ints (by simp; omega))) (ev_lc_of (evi_ow (l := T.map .int) (by simp [tf_law_parts, callG, eA]) (int_atoms _)) hl) (add_ints (by simp; omega))) h3) (by simp))]
  -- texts
  have hW : srtS (ofS gW rs).eraseDups = wsC (ofS gW rs) := wsC_sorted (nodup_eraseDups _) (fun s => List.mem_eraseDups) hu
  rw [hW] at eW
  have hT := ltexts_B (decide (wA25 ∈ ofS gW rs)) (decide (wB14 ∈ ofS gW rs)) (decide (wRent ∈ ofS gW rs)) (decide (wX ∈ ofS gW rs))
  have hT : f_law_texts [.lst ((wsC (ofS gW rs)).map .str)] = .ok (.ow, .lst ((textsC (wsC (ofS gW rs))).map .str)) := hT
  have h1 := cut_lst (S.map .str) 1 .fz elOk_fz
  rw [← List.map_take, lmo_atoms (str_atoms _)] at h1
  have ht : (S.take 1).length ≤ 1 := by rw [List.length_take]; omega
  have h1' : slG (Mo.fz, D.lst (List.map D.str S)) none (some 1) = some (.ow, .lst ((S.take 1).map .str)) := h1
  have h3 := sortG_strs (l := A ++ S.take 1) .ow (by rw [List.length_append]; omega)
  rw [hAc] at h3
  have hacc : ev tf_law_parts (.bi .sorted (.cons (.op .add (.var 2) (.sl (.var 3) .no (.so (.con (.int 1))))) .nil)) [some (false, rsE rs), some (false, .lst ((canI 0 (ofI gF rs) (ofI gT rs) 100000).map .int)), some (false, .lst (A.map .str)), some (false, .lst (S.map .str)), some (false, .lst ((canI (-1000000000000000) (ofI gB rs) (ofI gA rs) 1000000000000000).map .int)), some (false, .int 1000000000000000), some (false, .int 100000), none, none, none, none] = .ok (.ow, .lst ((canS (ofS gU rs) (ofS gN rs)).map .str)) :=
    ev_bi_of (ev_op_of (x := (.fz, .lst (A.map .str))) (by simp) (y := (.ow, .lst ((S.take 1).map .str))) (by simp [h1', -List.map_take]) (add_strs (by omega))) h3
  simp only [exs_cons_s, exS_ret, ev_tup, evs_cons_s, ev_var, List.getElem?_cons_succ, List.getElem?_cons_zero, Bool.false_and, Bool.false_eq_true, if_false, rb_ok, consK_eq, hacc]
  simp [hacc, tf_law_parts, callG, eW, hT, tupDG]
end K77

set_option Elab.async false
set_option linter.all false
set_option maxRecDepth 100000
set_option maxHeartbeats 4000000
/-! K77l: rows of parts, samples. -/
namespace Pi
open PySem PySem.Spec PyProof.Rows L2
/-- it goes on, and I holds then -/
def Nx (I : Rho → Prop) (R : Res Fl) : Prop := ∃ ρ2, (R = .ok (.nx ρ2) ∨ R = .ok (.ct ρ2)) ∧ I ρ2
theorem Nx.of {I : Rho → Prop} {R : Res Fl} (ρ2 : Rho) (h : R = .ok (.nx ρ2)) (i : I ρ2) : Nx I R := ⟨ρ2, .inl h, i⟩
theorem for_pre {α : Type} {T : Tab} {xs : Xs} {t : Tg} {it : It} {b r : Ss} {ρ : Rho} {l : List α} {enc : α → D} {P : Res Fl → Prop} (I : List α → Rho → Prop) (hit : evi T it ρ = .ok (l.map enc)) (i : I [] ρ)
    (h : ∀ p x post ρ, l = p ++ x :: post → I p ρ → ∃ ρ1, bindT t (enc x) ρ = some ρ1 ∧ Nx (I (p ++ [x])) (exs T xs b ρ1))
    (hn : ∀ ρ', I l ρ' → P (exs T xs r ρ')) : P (exs T xs (.cons (.for t it b) r) ρ) := by
  obtain ⟨ρ', e, i'⟩ := exFor_pre (f := fun ρ => exs T xs b ρ) (t := t) (enc := enc) I (xs := l) (pre := []) (ρ := ρ) h i
  rw [exs_cons_s, exS_for, hit, rb_ok]
  have : forK T xs t b ρ (l.map enc) = .ok (.nx ρ') := e
  rw [this]
  exact hn ρ' i'
theorem seqP {T : Tab} {xs : Xs} {s : S} {r : Ss} {ρ : Rho} {P : Res Fl → Prop} (ρ' : Rho) (h : exS T xs s ρ = .ok (.nx ρ')) (k : P (exs T xs r ρ')) : P (exs T xs (.cons s r) ρ) := by
  rw [exs_seq h]; exact k
theorem forK_nil {T : Tab} {xs : Xs} {t : Tg} {b : Ss} {ρ : Rho} : forK T xs t b ρ [] = .ok (.nx ρ) := rfl
theorem forK_cons {T : Tab} {xs : Xs} {t : Tg} {b : Ss} {ρ ρ1 : Rho} (ρ2 : Rho) {d : D} {l : List D} (h1 : bindT t d ρ = some ρ1) (h2 : exs T xs b ρ1 = .ok (.nx ρ2)) : forK T xs t b ρ (d :: l) = forK T xs t b ρ2 l := by
  unfold forK
  conv => lhs; unfold exFor
  rw [h1]
  simp only
  rw [h2]
  rfl
def Is (R x : Res Fl) : Prop := x = R
theorem runF_P {T : Tab} {xs : Xs} {n : Nat} {b : Ss} {ds : List D} (R : Res Fl) {r : Res (Mo × D)} (e : (R >>= endF) = r) (h : Is R (exs T xs b (ds.map (fun d => some (false, d)) ++ List.replicate (n - ds.length) none))) : runF T xs n b ds = r := runF_of R h e
end Pi
namespace K77
open PySem PySem.Spec PyProof.Rows L2 Pi
def ext1 (part : List D) (row : List D) : List (List D) := part.map fun one => row ++ [one]
def prodStep (rows : List (List D)) (part : List D) : List (List D) := rows.flatMap (ext1 part)
def prodRows (parts : List (List D)) : List (List D) := parts.foldl prodStep [[]]
theorem prodStep_len (part : List D) : ∀ rows : List (List D), (prodStep rows part).length = rows.length * part.length
  | [] => by simp [prodStep]
  | r :: rs => by
    have := prodStep_len part rs
    unfold prodStep at this ⊢
    rw [List.flatMap_cons, List.length_append, this, List.length_cons, Nat.succ_mul]
    simp [ext1]
    omega
theorem prodRows_snoc (p : List (List D)) (x : List D) : prodRows (p ++ [x]) = prodStep (prodRows p) x := by
  unfold prodRows; rw [List.foldl_append]; rfl
theorem prod_row (p : List (List D)) : ∀ q : List (List D), (∀ r ∈ q, r.length = k) → True := fun _ _ => trivial
theorem foldl_row : ∀ (ps : List (List D)) (rows : List (List D)) (k : Nat), (∀ r ∈ rows, r.length = k) → ∀ r ∈ ps.foldl prodStep rows, r.length = k + ps.length
  | [], rows, k, h, r, hr => by simpa using h r hr
  | p :: ps, rows, k, h, r, hr => by
    rw [List.foldl_cons] at hr
    have := foldl_row ps (prodStep rows p) (k + 1) (fun r hr => by
      unfold prodStep ext1 at hr
      obtain ⟨r0, h0, h1⟩ := List.mem_flatMap.mp hr
      obtain ⟨o, _, e⟩ := List.mem_map.mp h1
      rw [← e, List.length_append, h r0 h0]
      rfl) r hr
    rw [this, List.length_cons]
    omega
theorem prodRows_row (ps : List (List D)) : ∀ r ∈ prodRows ps, r.length = ps.length := fun r hr => by
  have := foldl_row ps [[]] 0 (by simp) r hr
  omega
theorem tup_atoms (l : List (List D)) : (l.map D.tup).all D.atom = true := atoms_map _ (fun _ => rfl) l
theorem add_tups {m n : Mo} {a b : List (List D)} (h : a.length + b.length ≤ 100000) : addG (m, .lst (a.map .tup)) (n, .lst (b.map .tup)) = some (.ow, .lst ((a ++ b).map .tup)) := by
  rw [add_lst (by rw [sz_line, List.length_map, List.length_map]; omega) (elOk_atoms (tup_atoms _)) (elOk_atoms (tup_atoms _)), ← List.map_append, lmo_atoms (tup_atoms _)]
/-- all prefixes are small -/
def Small (ps : List (List D)) : Prop := ps.length ≤ 10 ∧ ∀ p q, ps = p ++ q → (prodRows p).length ≤ 5000
theorem lrows_eq (ps : List (List D)) (h : Small ps) : f_law_rows [.tup (ps.map .lst)] = .ok (.fz, .lst ((prodRows ps).map .tup)) := by
  unfold f_law_rows bf_law_rows
  refine runF_P (.ok (.rt .fz (.lst ((prodRows ps).map .tup)))) rfl ?_
  refine seqP [some (false, .tup (ps.map .lst)), some (false, .lst [.tup []]), none, none, none, none] (by kernel_rfl) ?_
  refine for_pre (fun p ρ => ∃ a b c d, ρ = [some (false, .tup (ps.map .lst)), some (false, .lst ((prodRows p).map .tup)), a, b, c, d]) (l := ps) (enc := D.lst) (by simp) ⟨_, _, _, _, rfl⟩ (fun p x post ρ e ⟨a, b, c, d, e2⟩ => ?_) fun ρ ⟨a, b, c, d, e2⟩ => ?_
  · subst e2
    have hp := h.2 p (x :: post) e
    have hx := h.2 (p ++ [x]) post (by rw [e]; simp)
    have hr := prodRows_row p
    have hl : p.length ≤ 10 := by have := h.1; rw [e, List.length_append] at this; omega
    rw [prodRows_snoc] at hx
    rw [prodRows_snoc]
    generalize prodRows p = rows at *
    refine ⟨[some (false, .tup (ps.map .lst)), some (false, .lst (rows.map .tup)), some (false, .lst x), b, c, d], by simp [bindT, setR], ?_⟩
    refine seqP [some (false, .tup (ps.map .lst)), some (false, .lst (rows.map .tup)), some (false, .lst x), some (false, .lst []), c, d] (by simp [lstG, lmo]) ?_
    refine for_pre (fun q ρ => ∃ c d, ρ = [some (false, .tup (ps.map .lst)), some (false, .lst (rows.map .tup)), some (false, .lst x), some (false, .lst ((prodStep q x).map .tup)), c, d]) (l := rows) (enc := D.tup) (by simp) ⟨_, _, rfl⟩ (fun q r post2 ρ e3 ⟨c, d, e4⟩ => ?_) fun ρ ⟨c, d, e4⟩ => ?_
    · subst e4
      have hr1 := hr r (by rw [e3]; simp)
      have hx2 := hx
      rw [e3] at hx2
      have e5 : prodStep (q ++ r :: post2) x = prodStep q x ++ (ext1 x r ++ prodStep post2 x) := by
        unfold prodStep; rw [List.flatMap_append, List.flatMap_cons]
      rw [e5, List.length_append, List.length_append] at hx2
      have e6 : prodStep (q ++ [r]) x = prodStep q x ++ ext1 x r := by
        unfold prodStep; rw [List.flatMap_append, List.flatMap_cons, List.flatMap_nil, List.append_nil]
      have hxl : (ext1 x r).length = x.length := by unfold ext1; rw [List.length_map]
      have hlc : lcK tf_law_rows (.op .add (.var 4) (.tup (.cons (.var 5) .nil))) [5] (.nm 5) .no [some (false, .tup (ps.map .lst)), some (false, .lst (rows.map .tup)), some (false, .lst x), some (false, .lst ((prodStep q x).map .tup)), some (false, .tup r), d] x = .ok (.ow, .lst ((ext1 x r).map .tup)) := by
        have := lcK_at (T := tf_law_rows) (e := .op .add (.var 4) (.tup (.cons (.var 5) .nil))) (vs := [5]) (tg := .nm 5) (c := .no) (ρ := [some (false, .tup (ps.map .lst)), some (false, .lst (rows.map .tup)), some (false, .lst x), some (false, .lst ((prodStep q x).map .tup)), some (false, .tup r), d]) (enc := id) (fun _ => true) (fun one => .tup (r ++ [one])) (l := x) (by rw [sz_line]; omega) (fun _ => rfl) fun o ho =>
          ⟨[some (false, .tup (ps.map .lst)), some (false, .lst (rows.map .tup)), some (false, .lst x), some (false, .lst ((prodStep q x).map .tup)), some (false, .tup r), some (false, o)], by simp [wipeR, bindT, setR], by simp, fun _ => by
            have := add_tup .fz .fz (a := r) (b := [o]) (by rw [sz_line, hr1]; simp; omega)
            simp [tupDG, this]⟩
        rw [List.map_id, List.filter_eq_self.mpr (fun _ _ => rfl)] at this
        rw [this]
        unfold ext1
        rw [List.map_map]
        rfl
      have had := add_tups (m := .fz) (n := .ow) (a := prodStep q x) (b := ext1 x r) (by omega)
      refine ⟨[some (false, .tup (ps.map .lst)), some (false, .lst (rows.map .tup)), some (false, .lst x), some (false, .lst ((prodStep q x).map .tup)), some (false, .tup r), d], by simp [bindT, setR], ?_⟩
      refine Nx.of [some (false, .tup (ps.map .lst)), some (false, .lst (rows.map .tup)), some (false, .lst x), some (false, .lst ((prodStep (q ++ [r]) x).map .tup)), some (false, .tup r), d] ?_ ⟨_, _, rfl⟩
      rw [e6]
      simp [hlc, had, -List.map_append]
    · subst e4
      exact Nx.of [some (false, .tup (ps.map .lst)), some (false, .lst ((prodStep rows x).map .tup)), some (false, .lst x), some (false, .lst ((prodStep rows x).map .tup)), c, d] (by simp) ⟨_, _, _, _, rfl⟩
  · subst e2; show _ = _; simp
theorem prod_len (ps : List (List D)) : (prodRows ps).length = (ps.map List.length).foldl (· * ·) 1 := by
  have key : ∀ (ps rows : List (List D)), (ps.foldl prodStep rows).length = (ps.map List.length).foldl (· * ·) rows.length := fun ps => by
    induction ps with
    | nil => intro rows; rfl
    | cons p ps ih => intro rows; rw [List.foldl_cons, ih, List.map_cons, List.foldl_cons, prodStep_len]
  exact key ps [[]]
theorem small4 {a b c d : List D} (ha : a ≠ []) (hb : b ≠ []) (hc : c ≠ []) (hd : d ≠ []) (h : a.length * b.length * c.length * d.length ≤ 5000) : Small [a, b, c, d] := by
  have ha := List.length_pos_iff.mpr ha
  have hb := List.length_pos_iff.mpr hb
  have hc := List.length_pos_iff.mpr hc
  have hd := List.length_pos_iff.mpr hd
  have h3 : a.length * b.length * c.length ≤ 5000 := Nat.le_trans (Nat.le_mul_of_pos_right _ hd) h
  have h2 : a.length * b.length ≤ 5000 := Nat.le_trans (Nat.le_mul_of_pos_right _ hc) h3
  have h1 : a.length ≤ 5000 := Nat.le_trans (Nat.le_mul_of_pos_right _ hb) h2
  refine ⟨by simp, fun p q e => ?_⟩
  rw [prod_len]
  match p, e with
  | [], _ => simp
  | [_], e => simp at e; simp [← e.1]; exact h1
  | [_, _], e => simp at e; simp [← e.1, ← e.2.1]; exact h2
  | [_, _, _], e => simp at e; simp [← e.1, ← e.2.1, ← e.2.2.1]; exact h3
  | [_, _, _, _], e => simp at e; simp [← e.1, ← e.2.1, ← e.2.2.1, ← e.2.2.2.1]; exact h
  | _ :: _ :: _ :: _ :: _ :: _, e => simp at e
theorem aug_mul (i : Int) (n : Nat) (h : n ≤ 5000) : augG .mul (.int i) (.int n) = some (.int (i * n)) := by
  have q : (-(2 ^ 64) < i ∧ i < 2 ^ 64) ∨ (-(2 ^ 64) < (n : Int) ∧ (n : Int) < 2 ^ 64) := .inr ⟨by omega, by omega⟩
  unfold augG
  exact if_pos q
section
variable {R : D} {a b c d : List D} (ea : f_days [R] = .ok (.ow, .lst a)) (eb : f_accounts [R] = .ok (.ow, .lst b)) (ec : f_amounts [R] = .ok (.ow, .lst c)) (ed : f_words [R] = .ok (.ow, .lst d))
include ea eb ec ed
theorem fs_head (hl : a.length ≤ 5000 ∧ b.length ≤ 5000 ∧ c.length ≤ 5000 ∧ d.length ≤ 5000) {P : Res Fl → Prop} {r : Ss} (hP : P (exs tffound_samples xsC r [some (false, R), some (false, .lst [.lst a, .lst b, .lst c, .lst d]), some (false, .int ((a.length * b.length * c.length * d.length : Nat) : Int)), some (false, .lst d), none, none, none, none])) :
    P (exs tffound_samples xsC (.cons (.set 1 false (.lst (.cons (.call 0 (.cons (.var 0) .nil)) (.cons (.call 1 (.cons (.var 0) .nil)) (.cons (.call 2 (.cons (.var 0) .nil)) (.cons (.call 3 (.cons (.var 0) .nil)) .nil)))))) (.cons (.set 2 false (.con (.int 1))) (.cons (.for (.nm 3) (.of (.var 1)) (.cons (.aug 2 .mul (.bi .len (.cons (.var 3) .nil))) .nil)) r))) [some (false, R), none, none, none, none, none, none, none]) := by
  have hlm : lmo [D.lst a, .lst b, .lst c, .lst d] = .fz := rfl
  refine seqP [some (false, R), some (false, .lst [.lst a, .lst b, .lst c, .lst d]), none, none, none, none, none, none] (by simp [tffound_samples, callG, ea, eb, ec, ed, lstG, hlm]) ?_
  refine seqP [some (false, R), some (false, .lst [.lst a, .lst b, .lst c, .lst d]), some (false, .int 1), none, none, none, none, none] (by simp) ?_
  have hm : ∀ (i : Int) (x : List D), x.length ≤ 5000 → augG .mul (.int i) (.int (x.length : Nat)) = some (.int (i * (x.length : Nat))) := fun i x hx => aug_mul i x.length hx
  have one : ∀ (i : Int) (o : Option (Bool × D)) (x : List D) (l : List D), x.length ≤ 5000 → forK tffound_samples xsC (.nm 3) (.cons (.aug 2 .mul (.bi .len (.cons (.var 3) .nil))) .nil) [some (false, R), some (false, .lst [.lst a, .lst b, .lst c, .lst d]), some (false, .int i), o, none, none, none, none] (.lst x :: l) =
      forK tffound_samples xsC (.nm 3) (.cons (.aug 2 .mul (.bi .len (.cons (.var 3) .nil))) .nil) [some (false, R), some (false, .lst [.lst a, .lst b, .lst c, .lst d]), some (false, .int (i * (x.length : Nat))), some (false, .lst x), none, none, none, none] l := fun i o x l hx =>
    forK_cons _ (by simp [bindT, setR]; rfl) (by simp [hm i x hx])
  have key : exS tffound_samples xsC (.for (.nm 3) (.of (.var 1)) (.cons (.aug 2 .mul (.bi .len (.cons (.var 3) .nil))) .nil)) [some (false, R), some (false, .lst [.lst a, .lst b, .lst c, .lst d]), some (false, .int 1), none, none, none, none, none] = .ok (.nx [some (false, R), some (false, .lst [.lst a, .lst b, .lst c, .lst d]), some (false, .int ((a.length * b.length * c.length * d.length : Nat) : Int)), some (false, .lst d), none, none, none, none]) := by
    rw [exS_for, evi_fz (l := [.lst a, .lst b, .lst c, .lst d]) (by simp), rb_ok, one _ _ _ _ hl.1, one _ _ _ _ hl.2.1, one _ _ _ _ hl.2.2.1, one _ _ _ _ hl.2.2.2, forK_nil]
    rw [Int.one_mul, Int.natCast_mul, Int.natCast_mul, Int.natCast_mul]
  exact seqP _ key hP
theorem fs_many (hl : a.length ≤ 5000 ∧ b.length ≤ 5000 ∧ c.length ≤ 5000 ∧ d.length ≤ 5000) (h : 5000 < a.length * b.length * c.length * d.length) : ffound_samples [R] = .er "TooMany" .non := by
  unfold ffound_samples bffound_samples
  refine runF_P (.er "TooMany" .non) rfl ?_
  refine fs_head ea eb ec ed hl ?_
  show _ = _
  have hgt : (5000 : Int) < ((a.length * b.length * c.length * d.length : Nat) : Int) := by omega
  generalize ((a.length * b.length * c.length * d.length : Nat) : Int) = n at *
  simp [tffound_samples, glC, hgt]
  rfl
theorem fs_eq (hn : a ≠ [] ∧ b ≠ [] ∧ c ≠ [] ∧ d ≠ []) (hl : a.length ≤ 5000 ∧ b.length ≤ 5000 ∧ c.length ≤ 5000 ∧ d.length ≤ 5000) (h : a.length * b.length * c.length * d.length ≤ 5000) : ffound_samples [R] = .ok (.fz, .lst ((prodRows [a, b, c, d]).map .tup)) := by
  unfold ffound_samples bffound_samples
  refine runF_P (.ok (.rt .fz (.lst ((prodRows [a, b, c, d]).map .tup)))) rfl ?_
  refine fs_head ea eb ec ed hl ?_
  have hgt : ¬ (5000 : Int) < ((a.length * b.length * c.length * d.length : Nat) : Int) := by omega
  have hsm := small4 hn.1 hn.2.1 hn.2.2.1 hn.2.2.2 h
  generalize ((a.length * b.length * c.length * d.length : Nat) : Int) = n at *
  refine seqP [some (false, R), some (false, .lst [.lst a, .lst b, .lst c, .lst d]), some (false, .int n), some (false, .lst d), none, none, none, none] (by simp [tffound_samples, glC, hgt]) ?_
  refine seqP [some (false, R), some (false, .lst [.lst a, .lst b, .lst c, .lst d]), some (false, .int n), some (false, .lst d), some (false, .lst [.tup []]), none, none, none] (by kernel_rfl) ?_
  generalize hps : [a, b, c, d] = ps at *
  rw [show [D.lst a, .lst b, .lst c, .lst d] = ps.map .lst from by rw [← hps]; rfl]
  refine for_pre (fun p ρ => ∃ a b c d, ρ = [some (false, R), some (false, .lst (ps.map .lst)), some (false, .int n), a, some (false, .lst ((prodRows p).map .tup)), b, c, d]) (l := ps) (enc := D.lst) (by simp) ⟨_, _, _, _, rfl⟩ (fun p x post ρ e ⟨a, b, c, d, e2⟩ => ?_) fun ρ ⟨a, b, c, d, e2⟩ => ?_
  · subst e2
    have hp := hsm.2 p (x :: post) e
    have hx := hsm.2 (p ++ [x]) post (by rw [e]; simp)
    have hr := prodRows_row p
    have hl : p.length ≤ 10 := by have := hsm.1; rw [e, List.length_append] at this; omega
    rw [prodRows_snoc] at hx
    rw [prodRows_snoc]
    generalize prodRows p = rows at *
    refine ⟨[some (false, R), some (false, .lst (ps.map .lst)), some (false, .int n), some (false, .lst x), some (false, .lst (rows.map .tup)), b, c, d], by simp [bindT, setR], ?_⟩
    refine seqP [some (false, R), some (false, .lst (ps.map .lst)), some (false, .int n), some (false, .lst x), some (false, .lst (rows.map .tup)), some (true, .lst []), c, d] (by simp [lstG, lmo]) ?_
    refine for_pre (fun q ρ => ∃ c d, ρ = [some (false, R), some (false, .lst (ps.map .lst)), some (false, .int n), some (false, .lst x), some (false, .lst (rows.map .tup)), some (true, .lst ((prodStep q x).map .tup)), c, d]) (l := rows) (enc := D.tup) (by simp) ⟨_, _, rfl⟩ (fun q r post2 ρ e3 ⟨c, d, e4⟩ => ?_) fun ρ ⟨c, d, e4⟩ => ?_
    · subst e4
      have hr1 := hr r (by rw [e3]; simp)
      have hx2 := hx
      rw [e3] at hx2
      have e5 : prodStep (q ++ r :: post2) x = prodStep q x ++ (ext1 x r ++ prodStep post2 x) := by
        unfold prodStep; rw [List.flatMap_append, List.flatMap_cons]
      rw [e5, List.length_append, List.length_append] at hx2
      have e6 : prodStep (q ++ [r]) x = prodStep q x ++ ext1 x r := by
        unfold prodStep; rw [List.flatMap_append, List.flatMap_cons, List.flatMap_nil, List.append_nil]
      have hxl : (ext1 x r).length = x.length := by unfold ext1; rw [List.length_map]
      have hlc : lcK tffound_samples (.op .add (.var 6) (.tup (.cons (.var 7) .nil))) [7] (.nm 7) .no [some (false, R), some (false, .lst (ps.map .lst)), some (false, .int n), some (false, .lst x), some (false, .lst (rows.map .tup)), some (true, .lst ((prodStep q x).map .tup)), some (false, .tup r), d] x = .ok (.ow, .lst ((ext1 x r).map .tup)) := by
        have := lcK_at (T := tffound_samples) (e := .op .add (.var 6) (.tup (.cons (.var 7) .nil))) (vs := [7]) (tg := .nm 7) (c := .no) (ρ := [some (false, R), some (false, .lst (ps.map .lst)), some (false, .int n), some (false, .lst x), some (false, .lst (rows.map .tup)), some (true, .lst ((prodStep q x).map .tup)), some (false, .tup r), d]) (enc := id) (fun _ => true) (fun one => .tup (r ++ [one])) (l := x) (by rw [sz_line]; omega) (fun _ => rfl) fun o ho =>
          ⟨[some (false, R), some (false, .lst (ps.map .lst)), some (false, .int n), some (false, .lst x), some (false, .lst (rows.map .tup)), some (true, .lst ((prodStep q x).map .tup)), some (false, .tup r), some (false, o)], by simp [wipeR, bindT, setR], by simp, fun _ => by
            have := add_tup .fz .fz (a := r) (b := [o]) (by rw [sz_line, hr1]; simp; omega)
            simp [tupDG, this]⟩
        rw [List.map_id, List.filter_eq_self.mpr (fun _ _ => rfl)] at this
        rw [this]
        unfold ext1
        rw [List.map_map]
        rfl
      have hex : extG ((prodStep q x).map .tup) (.ow, .lst ((ext1 x r).map .tup)) = .ok ((prodStep (q ++ [r]) x).map .tup) := by
        unfold extG
        simp only
        rw [if_pos ⟨tup_atoms _, by rw [sz_line, List.length_map, List.length_map]; omega⟩, e6, List.map_append]
      refine ⟨[some (false, R), some (false, .lst (ps.map .lst)), some (false, .int n), some (false, .lst x), some (false, .lst (rows.map .tup)), some (true, .lst ((prodStep q x).map .tup)), some (false, .tup r), d], by simp [bindT, setR], ?_⟩
      refine Nx.of [some (false, R), some (false, .lst (ps.map .lst)), some (false, .int n), some (false, .lst x), some (false, .lst (rows.map .tup)), some (true, .lst ((prodStep (q ++ [r]) x).map .tup)), some (false, .tup r), d] ?_ ⟨_, _, rfl⟩
      simp [ownL, tup_atoms, hlc, hex, putO]
    · subst e4
      exact Nx.of [some (false, R), some (false, .lst (ps.map .lst)), some (false, .int n), some (false, .lst x), some (false, .lst ((prodStep rows x).map .tup)), some (false, .lst ((prodStep rows x).map .tup)), c, d] (by simp) ⟨_, _, _, _, rfl⟩
  · subst e2; show _ = _; simp
end
end K77

set_option Elab.async false
set_option linter.all false
set_option maxRecDepth 100000
set_option maxHeartbeats 4000000
/-! K77m: the samples of rules of the law's conditions. -/
namespace Pi
open PySem PySem.Spec PyProof.Rows L2
theorem filter_sortedI {U l : List Int} (hU : U.Nodup) (hs : U.Pairwise (· ≤ ·)) (hl : l.Nodup) (hp : l.Pairwise (· ≤ ·)) (h : ∀ x ∈ l, x ∈ U) : l = U.filter fun x => decide (x ∈ l) := by
  refine sortedI_uniq ((List.perm_ext_iff_of_nodup hl (hU.filter _)).mpr fun x => ?_) hp (hs.filter _)
  rw [List.mem_filter, decide_eq_true_eq]
  exact ⟨fun q => ⟨h x q, q⟩, fun q => q.2⟩
theorem filter_sortedS {U l : List (List Nat)} (hU : U.Nodup) (hs : SrtS U) (hl : l.Nodup) (hp : SrtS l) (h : ∀ x ∈ l, x ∈ U) : l = U.filter fun x => decide (x ∈ l) := by
  have e := srtS_uniq ((List.perm_ext_iff_of_nodup hl (hU.filter fun x => decide (x ∈ l))).mpr fun x => by
    rw [List.mem_filter, decide_eq_true_eq]
    exact ⟨fun q => ⟨h x q, q⟩, fun q => q.2⟩) hp
  have e2 := srtS_uniq (List.Perm.refl (U.filter fun x => decide (x ∈ l))) (List.Pairwise.filter _ hs)
  rw [e2]
  exact e
end Pi
namespace K77
open PySem PySem.Spec PyProof.Rows L2 Pi
/-- the law's conditions -/
def sB : List Nat := [98]
def sAB : List Nat := [97, 58, 98]
def sZY : List Nat := [122, 122, 58, 121]
def sABC : List Nat := [97, 58, 98, 58, 99]
def bigM : Int := 1000000000000000
def cUs : List (List Nat) := [[97], sAB, [98], sZY]
def cNs : List (List Nat) := [[97], [99], sABC]
def cFs : List Int := [0, 100000, 7]
def cTs : List Int := [0, 100000, 99999, 6]
def cAs : List Int := [1000000000000000, 999999999999999, -1000000000000000, 0]
def cBs : List Int := [1000000000000000, -1000000000000000, 1]
def conds25 : List Cd := cUs.map .under ++ cNs.map .nt ++ cFs.map .frm ++ cTs.map .til ++ cAs.map .abv ++ cBs.map .bel ++ WU.map .wrd
theorem c25_ok : ∀ c ∈ conds25, c.ok = true := by decide +kernel
/-- rules of the law -/
structure RsU (rs : List Rule) : Prop where
  c : ∀ q ∈ rs, ∀ c ∈ q.1, c ∈ conds25
  l : ∀ q ∈ rs, q.1.length ≤ 3
  n : rs.length ≤ 16
  g : ∀ q ∈ rs, q.2 = [116] ∨ q.2 = [117, 58, 118]
theorem conds_le : ∀ (rs : List Rule) (k : Nat), (∀ q ∈ rs, q.1.length ≤ k) → (condsOf rs).length ≤ rs.length * k
  | [], k, _ => by simp [condsOf]
  | q :: r, k, h => by
    have := conds_le r k fun x hx => h x (List.mem_cons_of_mem _ hx)
    have := h q List.mem_cons_self
    unfold condsOf at *
    rw [List.flatMap_cons, List.length_append, List.length_cons, Nat.succ_mul]
    omega
theorem RsU.ok {rs : List Rule} (h : RsU rs) : RsOk rs := ⟨fun q hq c hc => c25_ok c (h.c q hq c hc), fun q hq => Nat.le_trans (h.l q hq) (by decide), h.n, by have := conds_le rs 3 h.l; have := h.n; omega⟩
theorem RsU.cm {rs : List Rule} (h : RsU rs) : ∀ c ∈ condsOf rs, c ∈ conds25 := fun c hc => by
  unfold condsOf at hc
  obtain ⟨q, hq, hc⟩ := List.mem_flatMap.mp hc
  exact h.c q hq c hc
theorem memI {g : Cd → Option Int} {k : Int → Cd} (hg : ∀ c i, g c = some i ↔ c = k i) {rs : List Rule} {i : Int} : i ∈ ofI g rs ↔ k i ∈ condsOf rs := by
  unfold ofI
  rw [List.mem_filterMap]
  exact ⟨fun ⟨c, h, e⟩ => (hg c i).mp e ▸ h, fun h => ⟨_, h, (hg _ _).mpr rfl⟩⟩
theorem memS {g : Cd → Option (List Nat)} {k : List Nat → Cd} (hg : ∀ c i, g c = some i ↔ c = k i) {rs : List Rule} {i : List Nat} : i ∈ ofS g rs ↔ k i ∈ condsOf rs := by
  unfold ofS
  rw [List.mem_filterMap]
  exact ⟨fun ⟨c, h, e⟩ => (hg c i).mp e ▸ h, fun h => ⟨_, h, (hg _ _).mpr rfl⟩⟩
theorem hgF : ∀ c i, gF c = some i ↔ c = .frm i := fun c i => by cases c <;> simp [gF]
theorem hgT : ∀ c i, gT c = some i ↔ c = .til i := fun c i => by cases c <;> simp [gT]
theorem hgA : ∀ c i, gA c = some i ↔ c = .abv i := fun c i => by cases c <;> simp [gA]
theorem hgB : ∀ c i, gB c = some i ↔ c = .bel i := fun c i => by cases c <;> simp [gB]
theorem hgU : ∀ c i, gU c = some i ↔ c = .under i := fun c i => by cases c <;> simp [gU]
theorem hgN : ∀ c i, gN c = some i ↔ c = .nt i := fun c i => by cases c <;> simp [gN]
theorem hgW : ∀ c i, gW c = some i ↔ c = .wrd i := fun c i => by cases c <;> simp [gW]
theorem c25_frm : ∀ i, Cd.frm i ∈ conds25 → i ∈ cFs := fun i h => by simp [conds25] at h; exact h
theorem c25_til : ∀ i, Cd.til i ∈ conds25 → i ∈ cTs := fun i h => by simp [conds25] at h; exact h
theorem c25_abv : ∀ i, Cd.abv i ∈ conds25 → i ∈ cAs := fun i h => by simp [conds25] at h; exact h
theorem c25_bel : ∀ i, Cd.bel i ∈ conds25 → i ∈ cBs := fun i h => by simp [conds25] at h; exact h
theorem c25_und : ∀ i, Cd.under i ∈ conds25 → i ∈ cUs := fun i h => by simp [conds25] at h; exact h
theorem c25_nt : ∀ i, Cd.nt i ∈ conds25 → i ∈ cNs := fun i h => by simp [conds25] at h; exact h
theorem c25_wrd : ∀ i, Cd.wrd i ∈ conds25 → i ∈ WU := fun i h => by simp [conds25] at h; exact h
theorem RsU.hu {rs : List Rule} (h : RsU rs) : ∀ s ∈ ofS gW rs, s ∈ WU := fun s hs => c25_wrd s (h.cm _ ((memS hgW).mp hs))
/-! the domains -/
def Ddom : List Int := [0, 1, 7, 100000]
def Mdom : List Int := [-1000000000000000, -999999999999999, 1, 1000000000000000]
def Adom : List (List Nat) := [[97], sAB, sABC, [98], [99], [100], sZY]
theorem canI_nd (z : Int) (a b : List Int) (hi : Int) : (canI z a b hi).Nodup := (srtI_perm _).nodup_iff.mpr (nodup_eraseDups _)
theorem canI_mem {z : Int} {a b : List Int} {hi x : Int} : x ∈ canI z a b hi ↔ x = z ∨ x ∈ a ∨ ∃ y ∈ b, y < hi ∧ y + 1 = x := by
  unfold canI
  rw [(srtI_perm _).mem_iff, List.mem_eraseDups]
  simp only [List.mem_cons, List.mem_append, List.mem_map, List.mem_filter, decide_eq_true_eq]
  constructor
  · rintro ((h | h) | ⟨y, ⟨h1, h2⟩, h3⟩)
    · exact .inl h
    · exact .inr (.inl h)
    · exact .inr (.inr ⟨y, h1, h2, h3⟩)
  · rintro (h | h | ⟨y, h1, h2, h3⟩)
    · exact .inl (.inl h)
    · exact .inl (.inr h)
    · exact .inr ⟨y, ⟨h1, h2⟩, h3⟩
def daysOf (rs : List Rule) : List Int := canI 0 (ofI gF rs) (ofI gT rs) 100000
def amtsOf (rs : List Rule) : List Int := canI (-1000000000000000) (ofI gB rs) (ofI gA rs) 1000000000000000
def accsOf (rs : List Rule) : List (List Nat) := canS (ofS gU rs) (ofS gN rs)
def txtsOf (rs : List Rule) : List (List Nat) := textsC (wsC (ofS gW rs))
theorem days_dom {rs : List Rule} (h : RsU rs) : daysOf rs = Ddom.filter fun x => decide (x ∈ daysOf rs) := by
  refine filter_sortedI (by decide) (by decide) (canI_nd _ _ _ _) (srtI_sorted _) fun x hx => ?_
  have h1 : ∀ i ∈ cFs, i ∈ Ddom := by decide
  have h2 : ∀ i ∈ cTs, i < 100000 → i + 1 ∈ Ddom := by decide
  rcases canI_mem.mp hx with e | e | ⟨y, hy, e1, e2⟩
  · subst e; decide
  · exact h1 x (c25_frm x (h.cm _ ((memI hgF).mp e)))
  · subst e2; exact h2 y (c25_til y (h.cm _ ((memI hgT).mp hy))) e1
theorem amts_dom {rs : List Rule} (h : RsU rs) : amtsOf rs = Mdom.filter fun x => decide (x ∈ amtsOf rs) := by
  refine filter_sortedI (by decide) (by decide) (canI_nd _ _ _ _) (srtI_sorted _) fun x hx => ?_
  have h1 : ∀ i ∈ cBs, i ∈ Mdom := by decide
  have h2 : ∀ i ∈ cAs, i < 1000000000000000 → i + 1 ∈ Mdom := by decide
  rcases canI_mem.mp hx with e | e | ⟨y, hy, e1, e2⟩
  · subst e; decide
  · exact h1 x (c25_bel x (h.cm _ ((memI hgB).mp e)))
  · subst e2; exact h2 y (c25_abv y (h.cm _ ((memI hgA).mp hy))) e1
theorem spare_dom (us ns : List (List Nat)) (h : [100] ∉ us ∧ [100] ∉ ns) : ∀ s ∈ spare1 us ns, s ∈ Adom := by
  unfold spare1
  have : spareL = [97] :: [98] :: [99] :: [100] :: (spareL.drop 4) := by decide +kernel
  rw [this]
  simp only [List.filter_cons]
  have hd : (!decide ([100] ∈ us ∨ [100] ∈ ns)) = true := by simp [h.1, h.2]
  rw [hd, if_pos rfl]
  split
  · intro s hs; simp at hs; subst hs; decide
  · split
    · intro s hs; simp at hs; subst hs; decide
    · split
      · intro s hs; simp at hs; subst hs; decide
      · intro s hs; simp at hs; subst hs; decide
theorem canS_mem {us ns : List (List Nat)} {x : List Nat} : x ∈ canS us ns ↔ x ∈ us ∨ x ∈ ns ∨ x ∈ spare1 us ns := by
  unfold canS
  rw [(srtS_perm _).mem_iff, List.mem_append, List.mem_eraseDups, List.mem_append, or_assoc]
theorem canS_nd (us ns : List (List Nat)) : (canS us ns).Nodup := by
  unfold canS
  rw [(srtS_perm _).nodup_iff, List.nodup_append]
  refine ⟨nodup_eraseDups _, take1_nodup _, fun a ha b hb e => ?_⟩
  subst e
  have := List.mem_of_mem_take hb
  rw [List.mem_filter] at this
  simp only [Bool.not_eq_true', decide_eq_false_iff_not] at this
  rw [List.mem_eraseDups, List.mem_append] at ha
  exact this.2 ha
theorem accs_dom {rs : List Rule} (h : RsU rs) : accsOf rs = Adom.filter fun x => decide (x ∈ accsOf rs) := by
  have hU : ∀ s ∈ ofS gU rs, s ∈ cUs := fun s hs => c25_und s (h.cm _ ((memS hgU).mp hs))
  have hN : ∀ s ∈ ofS gN rs, s ∈ cNs := fun s hs => c25_nt s (h.cm _ ((memS hgN).mp hs))
  refine filter_sortedS (by decide +kernel) (by unfold SrtS; decide +kernel) (canS_nd _ _) (srtS_sorted _) fun x hx => ?_
  have h1 : ∀ i ∈ cUs, i ∈ Adom := by decide +kernel
  have h2 : ∀ i ∈ cNs, i ∈ Adom := by decide +kernel
  rcases canS_mem.mp hx with e | e | e
  · exact h1 x (hU x e)
  · exact h2 x (hN x e)
  · exact spare_dom _ _ ⟨fun q => by have := hU _ q; revert this; decide +kernel, fun q => by have := hN _ q; revert this; decide +kernel⟩ x e
/-! the samples -/
def rowsN (ds : List Int) (as : List (List Nat)) (ms : List Int) (ws : List (List Nat)) : List Row := ds.flatMap fun d => as.flatMap fun a => ms.flatMap fun m => ws.map fun w => ⟨d, a, m, w⟩
theorem rowsN_prod (ds : List Int) (as : List (List Nat)) (ms : List Int) (ws : List (List Nat)) : (prodRows [ds.map .int, as.map .str, ms.map .int, ws.map .str]).map D.tup = (rowsN ds as ms ws).map Row.enc := by
  unfold prodRows rowsN
  simp only [List.foldl_cons, List.foldl_nil, prodStep, List.flatMap_cons, List.flatMap_nil, List.append_nil]
  have e : ∀ (part : List D) (r : List D), ext1 part r = part.map fun one => r ++ [one] := fun _ _ => rfl
  simp only [e, List.map_map, List.flatMap_map, List.flatMap_assoc, List.map_flatMap]
  rfl
def sampOf (rs : List Rule) : List Row := rowsN (daysOf rs) (accsOf rs) (amtsOf rs) (txtsOf rs)
theorem txts_B : ∀ b1 b2 b3 b4, (textsC (wsB b1 b2 b3 b4)).length ≤ 13 ∧ textsC (wsB b1 b2 b3 b4) ≠ [] := by decide +kernel
theorem parts_len {rs : List Rule} (h : RsU rs) : (daysOf rs).length ≤ 4 ∧ (accsOf rs).length ≤ 7 ∧ (amtsOf rs).length ≤ 4 ∧ (txtsOf rs).length ≤ 13 := by
  refine ⟨?_, ?_, ?_, (txts_B _ _ _ _).1⟩
  · rw [days_dom h]; exact List.length_filter_le _ Ddom
  · rw [accs_dom h]; exact List.length_filter_le _ Adom
  · rw [amts_dom h]; exact List.length_filter_le _ Mdom
theorem spare_ne (us ns : List (List Nat)) (h : [100] ∉ us ∧ [100] ∉ ns) : spare1 us ns ≠ [] := by
  unfold spare1
  intro e
  rw [List.take_eq_nil_iff] at e
  have e := e.resolve_left (by decide)
  have : [100] ∈ spareL.filter fun s => !decide (s ∈ us ∨ s ∈ ns) := by
    rw [List.mem_filter]
    exact ⟨by decide +kernel, by simp [h.1, h.2]⟩
  rw [e] at this
  simp at this
theorem parts_ne {rs : List Rule} (h : RsU rs) : daysOf rs ≠ [] ∧ accsOf rs ≠ [] ∧ amtsOf rs ≠ [] ∧ txtsOf rs ≠ [] := by
  refine ⟨List.ne_nil_of_mem (canI_mem.mpr (.inl rfl)), ?_, List.ne_nil_of_mem (canI_mem.mpr (.inl rfl)), (txts_B _ _ _ _).2⟩
  have hU : ∀ s ∈ ofS gU rs, s ∈ cUs := fun s hs => c25_und s (h.cm _ ((memS hgU).mp hs))
  have hN : ∀ s ∈ ofS gN rs, s ∈ cNs := fun s hs => c25_nt s (h.cm _ ((memS hgN).mp hs))
  have := spare_ne (ofS gU rs) (ofS gN rs) ⟨fun q => by have := hU _ q; revert this; decide +kernel, fun q => by have := hN _ q; revert this; decide +kernel⟩
  obtain ⟨x, hx⟩ := List.exists_mem_of_ne_nil _ this
  exact List.ne_nil_of_mem (canS_mem.mpr (.inr (.inr hx)))
theorem many_le {rs : List Rule} (h : RsU rs) : (daysOf rs).length * (accsOf rs).length * (amtsOf rs).length * (txtsOf rs).length ≤ 1456 := by
  obtain ⟨h1, h2, h3, h4⟩ := parts_len h
  calc _ ≤ 4 * 7 * 4 * 13 := Nat.mul_le_mul (Nat.mul_le_mul (Nat.mul_le_mul h1 h2) h3) h4
    _ = 1456 := rfl
theorem fsamp_eq {rs : List Rule} (h : RsU rs) : ffound_samples [rsE rs] = .ok (.fz, .lst ((sampOf rs).map Row.enc)) := by
  obtain ⟨h1, h2, h3, h4⟩ := parts_len h
  obtain ⟨n1, n2, n3, n4⟩ := parts_ne h
  have hm := many_le h
  have := fs_eq (R := rsE rs) (f_days_eq rs h.ok) (faccounts_eq rs h.ok) (f_amounts_eq rs h.ok) (words_eq rs h.ok h.hu)
    ⟨fun e => n1 (List.map_eq_nil_iff.mp e), fun e => n2 (List.map_eq_nil_iff.mp e), fun e => n3 (List.map_eq_nil_iff.mp e), fun e => n4 (List.map_eq_nil_iff.mp e)⟩
    ⟨by rw [List.length_map]; exact Nat.le_trans h1 (by decide), by rw [List.length_map]; exact Nat.le_trans h2 (by decide), by rw [List.length_map]; exact Nat.le_trans h3 (by decide), by rw [List.length_map]; exact Nat.le_trans h4 (by decide)⟩
    (by rw [List.length_map, List.length_map, List.length_map, List.length_map]; exact Nat.le_trans hm (by decide))
  rw [this, rowsN_prod]
  rfl
end K77

set_option Elab.async false
set_option linter.all false
set_option maxRecDepth 100000
set_option maxHeartbeats 4000000
/-! K77n: what the functions on rules tell. -/
namespace Pi
open PySem PySem.Spec PyProof.Rows L2
def isT (r : Res (Mo × D)) : Bool := match r with
  | .ok (.fz, .bl true) => true
  | _ => false
theorem isT_eq {r : Res (Mo × D)} (h : isT r = true) : r = .ok (.fz, .bl true) := by
  unfold isT at h
  split at h
  · rfl
  · cases h
theorem ck_nb {T : Tab} {f : Nat} {as : List (Mo × D)} {p : Str × Nat × (List D → Res (Mo × D))} {m : Mo} {d : D} (hf : T.fn[f]? = some p) (h : p.2.2 (as.map (·.2)) = .ok (m, d)) (hm : m ≠ .bo) (ha : (as.all fun a => decide (a.1 ≠ .bo)) = true) : callK T f as = .ok (m, d) := by
  rw [callK_eq, hf]
  show callG p.2.2 as = _
  generalize p.2.2 = F at *
  unfold callG
  rw [h]
  simp only
  rw [if_neg]
  rintro (q | ⟨q, _⟩)
  · exact hm q
  · rw [List.any_eq_true] at q
    obtain ⟨x, hx, e⟩ := q
    rw [List.all_eq_true] at ha
    have := ha x hx
    simp at this e
    exact this e
theorem cut_tup (a : List D) (n : Nat) (m : Mo) : slG (m, .tup a) none (some (n : Int)) = some (.fz, .tup (a.take n)) := by
  unfold slG Pi.cutD
  simp only [HT.sIx_none, HT.sIx_nat, List.drop_zero, Nat.sub_zero]
  rw [← List.take_eq_take_min]
theorem drop_tup (a : List D) (n : Nat) (m : Mo) : slG (m, .tup a) (some (n : Int)) none = some (.fz, .tup (a.drop n)) := by
  unfold slG Pi.cutD
  simp only [HT.sIx_none, HT.sIx_nat]
  congr 4
  rcases Nat.le_total n a.length with h | h
  · rw [Nat.min_eq_left h, List.take_of_length_le (by rw [List.length_drop]; exact Nat.le_refl _)]
  · rw [Nat.min_eq_right h, Nat.sub_self, List.take_zero, List.drop_eq_nil_of_le h]
end Pi
namespace K77
open PySem PySem.Spec PyProof.Rows L2 Pi
theorem c25_cond : ∀ c ∈ conds25, isT (fis_condition [c.enc]) = true := by decide +kernel
theorem tg_acc : isT (fis_account [.str [116]]) = true ∧ isT (fis_account [.str [117, 58, 118]]) = true := by decide +kernel
theorem isrule_eq {rs : List Rule} (h : RsU rs) {q : Rule} (hq : q ∈ rs) : f_is_rule [ruE q] = .ok (.fz, .bl true) := by
  unfold f_is_rule bf_is_rule
  have hl := h.l q hq
  have ha : fis_account [.str q.2] = .ok (.fz, .bl true) := by
    rcases h.g q hq with e | e <;> rw [e]
    · exact isT_eq tg_acc.1
    · exact isT_eq tg_acc.2
  have hlc : lcK tf_is_rule (.and (.call 1 (.cons (.var 1) .nil)) (.op .ne (.ix (.var 1) (.con (.int 0))) (.con (.str [105,110])))) [1] (.nm 1) .no [some (false, ruE q), none] (q.1.map Cd.enc) = .ok (.ow, .lst (q.1.map fun c => .bl true)) :=
    lcK_bl (fun _ => true) (by rw [sz_line]; omega) fun c hc => by
      refine ⟨[some (false, ruE q), some (false, c.enc)], by simp [wipeR, bindT, setR], ?_⟩
      have h1 := isT_eq (c25_cond c (h.c q hq c hc))
      have h2 : c.word ≠ [105, 110] := by cases c <;> simp [Cd.word, wU, wN, wF, wT, wA, wB, wW]
      have h3 : c.enc.atom = true := rfl
      have ck := ck_nb (T := tf_is_rule) (f := 1) (as := [(.fz, c.enc)]) (p := (_, _, fis_condition)) rfl h1 (by decide) rfl
      simp only [ev_and, ev_call, evs_cons_s, ev_var, List.getElem?_cons_succ, List.getElem?_cons_zero, Bool.false_and, Bool.false_eq_true, if_false, rb_ok, consK_eq, evs_nil_s, consB_eq, ck, andK_eq, toB_bl, andB_eq, if_true]
      simp [Cd.enc, h2]
  have h4 : ((q.1.length : Nat) : Int) ≤ 6 := by omega
  have h5 : ¬ (6 : Int) < ((q.1.length : Nat) : Int) := by omega
  rw [runF_eq]
  simp [ruE, tf_is_rule, callG, ha, glC, h5]
  simp [ruE, tf_is_rule, glC] at hlc
  simp [hlc]
theorem arerules_eq {rs : List Rule} (h : RsU rs) (hn : rs.length ≤ 8) : fare_rules [rsE rs] = .ok (.fz, .bl true) := by
  unfold fare_rules bfare_rules
  have hlc : lcK tfare_rules (.call 0 (.cons (.var 1) .nil)) [1] (.nm 1) .no [some (false, rsE rs), none] (rs.map ruE) = .ok (.ow, .lst (rs.map fun c => .bl true)) :=
    lcK_bl (fun _ => true) (by rw [sz_line]; omega) fun q hq => by
      refine ⟨[some (false, rsE rs), some (false, ruE q)], by simp [wipeR, bindT, setR], ?_⟩
      have h3 : (ruE q).atom = true := rfl
      simp [tfare_rules, callG, isrule_eq h hq, h3]
  have h5 : ¬ (8 : Int) < ((rs.length : Nat) : Int) := by omega
  rw [runF_eq]
  simp [tfare_rules, glC] at hlc
  simp [tfare_rules, glC, h5, hlc]
theorem check_eq {L : List (List Rule)} (h : ∀ rs ∈ L, RsU rs ∧ rs.length ≤ 8) (hL : L.length ≤ 10) : fcheck_rules [.lst (L.map rsE)] = .ok (.fz, .non) := by
  unfold fcheck_rules bfcheck_rules
  have hlc : lcK tfcheck_rules (.call 0 (.cons (.var 1) .nil)) [1] (.nm 1) .no [some (false, .lst (L.map rsE)), none] (L.map rsE) = .ok (.ow, .lst (L.map fun c => .bl true)) :=
    lcK_bl (fun _ => true) (by rw [sz_line]; omega) fun rs hrs => by
      refine ⟨[some (false, .lst (L.map rsE)), some (false, rsE rs)], by simp [wipeR, bindT, setR], ?_⟩
      simp [tfcheck_rules, callG, arerules_eq (h rs hrs).1 (h rs hrs).2]
  rw [runF_eq]
  simp [hlc]
theorem check1 {rs : List Rule} (h : RsU rs) (hn : rs.length ≤ 8) : fcheck_rules [.lst [rsE rs]] = .ok (.fz, .non) :=
  check_eq (L := [rs]) (fun x hx => by simp at hx; subst hx; exact ⟨h, hn⟩) (by simp)
theorem check2 {rs ss : List Rule} (h : RsU rs) (hn : rs.length ≤ 8) (h2 : RsU ss) (hn2 : ss.length ≤ 8) : fcheck_rules [.lst [rsE rs, rsE ss]] = .ok (.fz, .non) :=
  check_eq (L := [rs, ss]) (fun x hx => by simp at hx; rcases hx with e | e <;> subst e <;> constructor <;> assumption) (by simp)
theorem samples_eq {rs : List Rule} (h : RsU rs) (hn : rs.length ≤ 8) : fsamples [rsE rs] = .ok (.fz, .tup ((sampOf rs).map Row.enc)) := by
  unfold fsamples bfsamples
  rw [runF_eq]
  simp [tfsamples, callG, lstG, lmo, check1 h hn, fsamp_eq h, tupG, elOk_fz]
theorem lsamples_eq {rs : List Rule} (h : RsU rs) (hn : rs.length ≤ 8) : f_law_samples [rsE rs] = .ok (.fz, .tup ((sampOf rs).map Row.enc)) := by
  unfold f_law_samples bf_law_samples
  rw [runF_eq]
  simp [tf_law_samples, callG, samples_eq h hn]
/-! targets -/
def tgE : Option (List Nat) → D
  | none => .non
  | some s => .str s
def target (rs : List Rule) (r : Row) : Option (List Nat) := (rs.find? fun q => q.1.all (keep r)).map (·.2)
theorem find_first (rs : List Rule) (r : Row) : (firstR rs r).bind (fun k => rs[k]?) = rs.find? fun q => q.1.all (keep r) := by
  unfold firstR
  induction rs with
  | nil => rfl
  | cons q r' ih =>
    rw [List.findIdx?_cons, List.find?_cons]
    cases h : q.1.all (keep r) with
    | true => simp
    | false =>
      simp only [Bool.false_eq_true, if_false]
      rw [← ih]
      cases List.findIdx? (fun q : Rule => q.1.all (keep r)) r' <;> simp
theorem first_lt {rs : List Rule} {r : Row} {k : Nat} (h : firstR rs r = some k) : k < rs.length := by
  unfold firstR at h
  rw [List.findIdx?_eq_some_iff_getElem] at h
  exact h.1
theorem target_eq {rs : List Rule} {r : Row} (h : RsOk rs) (hr : RowOk r) : f_target [rsE rs, r.enc] = .ok (.fz, tgE (target rs r)) := by
  unfold f_target bf_target
  have hf := found_eq rs r h hr
  have hb := find_first rs r
  rw [runF_eq]
  cases e : firstR rs r with
  | none =>
    rw [e] at hf hb
    have : target rs r = none := by unfold target; rw [← hb]; rfl
    have ck := ck_nb (T := tf_target) (f := 0) (as := [(.fz, rsE rs), (.fz, r.enc)]) (p := (_, _, ffound_rule)) rfl hf (by decide) rfl
    have hea : r.enc.atom = true := rfl
    simp [ck, hea, oiE, this, tgE, -callK_eq]
  | some k =>
    rw [e] at hf hb
    have hk := first_lt e
    have hg : rs[k]? = some rs[k] := by simp
    have h2 : target rs r = some (rs[k]).2 := by
      unfold target
      rw [← hb, Option.bind_some, hg]
      rfl
    have ha : atI (rs.map ruE) (k : Int) = some (ruE rs[k]) := by rw [Pi.atI_nat, List.getElem?_map, hg]; rfl
    rw [h2]
    have ck := ck_nb (T := tf_target) (f := 0) (as := [(.fz, rsE rs), (.fz, r.enc)]) (p := (_, _, ffound_rule)) rfl hf (by decide) rfl
    have hea : r.enc.atom = true := rfl
    have ixr : ∀ (q : Rule) (m n : Mo), ixG (m, ruE q) (n, .int 1) = some (.fz, .str q.2) := fun _ _ _ => rfl
    simp [ck, hea, oiE, tgE, ha, ixr, -callK_eq]
theorem ne_tg {m n : Mo} {a b : Option (List Nat)} (ha : ∀ s, a = some s → txt s = true) (hb : ∀ s, b = some s → txt s = true) : blG true eqD (m, tgE a) (n, tgE b) = some (.fz, .bl (decide (a ≠ b))) := by
  cases a with
  | none =>
    cases b with
    | none => rfl
    | some s =>
      have h1 := toPyS_str (hb s rfl)
      have : eqD .non (.str s) = some false := by
        unfold eqD
        simp only
        rw [h1]
        rfl
      unfold blG tgE
      simp [this]
  | some t =>
    cases b with
    | none =>
      have h1 := toPyS_str (ha t rfl)
      have : eqD (.str t) .non = some false := by
        unfold eqD
        simp only
        rw [h1]
        rfl
      unfold blG tgE
      simp [this]
    | some s => simp [tgE]
theorem target_txt {rs : List Rule} (h : RsU rs) (r : Row) : ∀ s, target rs r = some s → txt s = true := fun s hs => by
  unfold target at hs
  rw [Option.map_eq_some_iff] at hs
  obtain ⟨q, hq, e⟩ := hs
  have := h.g q (List.mem_of_find?_eq_some hq)
  rcases this with e2 | e2 <;> rw [← e, e2] <;> decide
theorem RsU.sub {rs ss : List Rule} (h : RsU rs) (s : ss.Sublist rs) : RsU ss := ⟨fun q hq => h.c q (s.subset hq), fun q hq => h.l q (s.subset hq), Nat.le_trans s.length_le h.n, fun q hq => h.g q (s.subset hq)⟩
theorem RsU.app {rs ss : List Rule} (h : RsU rs) (h2 : RsU ss) (n : rs.length ≤ 8) (n2 : ss.length ≤ 8) : RsU (rs ++ ss) :=
  ⟨fun q hq => (List.mem_append.mp hq).elim (h.c q) (h2.c q), fun q hq => (List.mem_append.mp hq).elim (h.l q) (h2.l q), by rw [List.length_append]; omega, fun q hq => (List.mem_append.mp hq).elim (h.g q) (h2.g q)⟩
/-- rows that are looked at -/
def orE : Option Row → D
  | none => .non
  | some r => r.enc
theorem apart_eq {rs ss : List Rule} (h : RsU rs) (h2 : RsU ss) (n : rs.length ≤ 8) (n2 : ss.length ≤ 8) (hrows : ∀ r ∈ sampOf (rs ++ ss), RowOk r) :
    f_apart [rsE rs, rsE ss] = .ok (.fz, orE ((sampOf (rs ++ ss)).find? fun r => decide (target rs r ≠ target ss r))) := by
  unfold f_apart bf_apart
  refine runF_of (.ok (.rt .fz (orE ((sampOf (rs ++ ss)).find? fun r => decide (target rs r ≠ target ss r))))) ?_ rfl
  have hadd : addG (.fz, rsE rs) (.fz, rsE ss) = some (.fz, rsE (rs ++ ss)) := by
    have := add_tup .fz .fz (a := rs.map ruE) (b := ss.map ruE) (by rw [sz_line, List.length_map, List.length_map]; omega)
    rw [← List.map_append] at this
    exact this
  have hfs := fsamp_eq (h.app h2 n n2)
  refine exs_find (fun ρ => ∃ a, ρ = [some (false, rsE rs), some (false, rsE ss), a]) (fun r : Row => decide (target rs r ≠ target ss r)) (fun r => .rt .fz r.enc) (l := sampOf (rs ++ ss)) (enc := Row.enc)
    (evi_fz (by simp [tf_apart, callG, hadd, hfs, -List.map_append])) ⟨_, rfl⟩ (fun r ρ hr ⟨a, e⟩ => ?_) (fun r hr => ?_) fun hr ρ ⟨a, e⟩ => ?_
  · subst e
    have h3 := target_eq h.ok (hrows r hr)
    have h4 := target_eq h2.ok (hrows r hr)
    have h5 := ne_tg (m := .fz) (n := .fz) (target_txt h r) (target_txt h2 r)
    have h6 : r.enc.atom = true := rfl
    refine ⟨[some (false, rsE rs), some (false, rsE ss), some (false, r.enc)], by simp [bindT, setR], fun hp => ⟨?_, .fz, _, rfl⟩, fun hp => ⟨[some (false, rsE rs), some (false, rsE ss), some (false, r.enc)], .inl ?_, _, rfl⟩⟩
    · rw [hp] at h5
      simp [tf_apart, callG, h3, h4, h5, h6]
    · rw [hp] at h5
      simp [tf_apart, callG, h3, h4, h5, h6]
  · rw [hr]; rfl
  · subst e
    rw [hr]
    simp [orE]
theorem without_eq (rs : List Rule) (k : Nat) (hn : rs.length ≤ 1000) : f_without [rsE rs, .int (k : Nat)] = .ok (.fz, rsE (rs.eraseIdx k)) := by
  unfold f_without bf_without
  have h1 := cut_tup (rs.map ruE) k .fz
  have h2 := drop_tup (rs.map ruE) (k + 1) .fz
  have h3 := add_tup .fz .fz (a := (rs.map ruE).take k) (b := (rs.map ruE).drop (k + 1)) (by rw [sz_line, List.length_take, List.length_drop, List.length_map]; omega)
  have e : rsE (rs.eraseIdx k) = .tup ((rs.map ruE).take k ++ (rs.map ruE).drop (k + 1)) := by
    show D.tup _ = _
    rw [List.eraseIdx_eq_take_drop_succ, List.map_append, List.map_take, List.map_drop]
  rw [e, runF_eq]
  have h2' : slG (Mo.fz, D.tup (List.map ruE rs)) (some ((k : Int) + 1)) none = some (.fz, .tup ((rs.map ruE).drop (k + 1))) := h2
  simp [h1, h2', h3, -List.map_take, -List.map_drop]
end K77

set_option Elab.async false
set_option linter.all false
set_option maxRecDepth 100000
set_option maxHeartbeats 4000000
/-! K77o: plain: samples stand for all rows; rules that can go. -/
namespace K77
open PySem PySem.Spec PyProof.Rows L2 Pi
def SameC (rs ss : List Rule) : Prop := ∀ c, c ∈ condsOf rs ↔ c ∈ condsOf ss
theorem canI_congr {z hi : Int} {a b a' b' : List Int} (ha : ∀ x, x ∈ a ↔ x ∈ a') (hb : ∀ x, x ∈ b ↔ x ∈ b') : canI z a b hi = canI z a' b' hi := by
  refine sortedI_uniq ((List.perm_ext_iff_of_nodup (canI_nd _ _ _ _) (canI_nd _ _ _ _)).mpr fun x => ?_) (srtI_sorted _) (srtI_sorted _)
  rw [canI_mem, canI_mem, ha]
  simp only [hb]
theorem spare1_congr {a b a' b' : List (List Nat)} (ha : ∀ x, x ∈ a ↔ x ∈ a') (hb : ∀ x, x ∈ b ↔ x ∈ b') : spare1 a b = spare1 a' b' := by
  unfold spare1
  congr 1
  refine List.filter_congr fun s _ => ?_
  rw [decide_eq_decide.mpr (or_congr (ha s) (hb s))]
theorem canS_congr {a b a' b' : List (List Nat)} (ha : ∀ x, x ∈ a ↔ x ∈ a') (hb : ∀ x, x ∈ b ↔ x ∈ b') : canS a b = canS a' b' := by
  have e := srtS_uniq (l := canS a b) (m := canS a' b') ((List.perm_ext_iff_of_nodup (canS_nd _ _) (canS_nd _ _)).mpr fun x => by rw [canS_mem, canS_mem, ha, hb, spare1_congr ha hb]) (srtS_sorted _)
  have e2 := srtS_uniq (l := canS a' b') (List.Perm.refl _) (srtS_sorted _)
  rw [e, ← e2]
theorem sampOf_congr {rs ss : List Rule} (h : SameC rs ss) : sampOf rs = sampOf ss := by
  have hI : ∀ {g : Cd → Option Int} {k : Int → Cd} (hg : ∀ c i, g c = some i ↔ c = k i) x, x ∈ ofI g rs ↔ x ∈ ofI g ss := fun hg x => by rw [memI hg, memI hg]; exact h _
  have hS : ∀ {g : Cd → Option (List Nat)} {k : List Nat → Cd} (hg : ∀ c i, g c = some i ↔ c = k i) x, x ∈ ofS g rs ↔ x ∈ ofS g ss := fun hg x => by rw [memS hg, memS hg]; exact h _
  unfold sampOf daysOf accsOf amtsOf txtsOf
  rw [canI_congr (hI hgF) (hI hgT), canI_congr (hI hgB) (hI hgA), canS_congr (hS hgU) (hS hgN)]
  have : wsC (ofS gW rs) = wsC (ofS gW ss) := by
    unfold wsC
    rw [decide_eq_decide.mpr (hS hgW wA25), decide_eq_decide.mpr (hS hgW wB14), decide_eq_decide.mpr (hS hgW wRent), decide_eq_decide.mpr (hS hgW wX)]
  rw [this]
theorem sameC_app {rs ss : List Rule} (h : ∀ q ∈ ss, q ∈ rs) : SameC (rs ++ ss) rs := fun c => by
  unfold condsOf
  simp only [List.mem_flatMap, List.mem_append]
  exact ⟨fun ⟨q, hq, hc⟩ => ⟨q, hq.elim id (h q), hc⟩, fun ⟨q, hq, hc⟩ => ⟨q, .inl hq, hc⟩⟩
theorem sameC_app' {rs ss : List Rule} (h : ∀ q ∈ ss, q ∈ rs) : SameC (ss ++ rs) rs := fun c => by
  unfold condsOf
  simp only [List.mem_flatMap, List.mem_append]
  exact ⟨fun ⟨q, hq, hc⟩ => ⟨q, hq.elim (h q) id, hc⟩, fun ⟨q, hq, hc⟩ => ⟨q, .inr hq, hc⟩⟩
/-! all rows that matter -/
def Dall : List Int := [0, 1, 7, 100000, 99999]
def Aall : List (List Nat) := Adom ++ [[122, 122], [97, 58, 98, 58, 99, 58, 100]]
def Mall : List Int := Mdom ++ [0]
def Tall : List (List Nat) := textsC WU
structure DomR (r : Row) : Prop where
  d : r.d ∈ Dall
  a : r.a ∈ Aall
  m : r.m ∈ Mall
  w : r.w ∈ Tall
theorem DomR.ok {r : Row} (h : DomR r) : RowOk r := by
  have ha : ∀ s ∈ Aall, s.length ≤ 1000 ∧ txt s = true := by decide +kernel
  have hw : ∀ s ∈ Tall, s.length ≤ 1000 ∧ txt s = true := by decide +kernel
  exact ⟨(ha _ h.a).1, (hw _ h.w).1, (hw _ h.w).2, (ha _ h.a).2⟩
theorem mem_rowsN {ds ms : List Int} {as ws : List (List Nat)} {r : Row} : r ∈ rowsN ds as ms ws ↔ r.d ∈ ds ∧ r.a ∈ as ∧ r.m ∈ ms ∧ r.w ∈ ws := by
  unfold rowsN
  simp only [List.mem_flatMap, List.mem_map]
  constructor
  · rintro ⟨d, hd, a, ha, m, hm, w, hw, e⟩
    subst e
    exact ⟨hd, ha, hm, hw⟩
  · rintro ⟨hd, ha, hm, hw⟩
    exact ⟨r.d, hd, r.a, ha, r.m, hm, r.w, hw, rfl⟩
theorem samp_dom {rs : List Rule} (h : RsU rs) : ∀ r ∈ sampOf rs, DomR r := fun r hr => by
  obtain ⟨h1, h2, h3, h4⟩ := mem_rowsN.mp hr
  rw [days_dom h] at h1
  rw [accs_dom h] at h2
  rw [amts_dom h] at h3
  have ht : ∀ b1 b2 b3 b4, ∀ t ∈ textsC (wsB b1 b2 b3 b4), t ∈ Tall := by decide +kernel
  have e1 : ∀ x ∈ Ddom, x ∈ Dall := by decide
  have e3 : ∀ x ∈ Mdom, x ∈ Mall := by decide
  exact ⟨e1 _ (List.mem_filter.mp h1).1, List.mem_append_left _ (List.mem_filter.mp h2).1, e3 _ (List.mem_filter.mp h3).1, ht _ _ _ _ _ h4⟩
def subs {α : Type} : List α → List (List α)
  | [] => [[]]
  | a :: r => subs r ++ (subs r).map (a :: ·)
theorem filter_subs {α : Type} (p : α → Bool) : ∀ l : List α, l.filter p ∈ subs l
  | [] => by simp [subs]
  | a :: r => by
    unfold subs
    rw [List.filter_cons]
    split
    · exact List.mem_append_right _ (List.mem_map_of_mem (filter_subs p r))
    · exact List.mem_append_left _ (filter_subs p r)
theorem cov_d : ∀ F ∈ subs cFs, ∀ T ∈ subs cTs, ∀ v ∈ Dall, ∃ d ∈ canI 0 F T 100000, (∀ i ∈ F, decide (i ≤ d) = decide (i ≤ v)) ∧ (∀ i ∈ T, decide (d ≤ i) = decide (v ≤ i)) := by decide +kernel
theorem cov_m : ∀ B ∈ subs cBs, ∀ A ∈ subs cAs, ∀ v ∈ Mall, ∃ m ∈ canI (-1000000000000000) B A 1000000000000000, (∀ i ∈ A, decide (i < m) = decide (i < v)) ∧ (∀ i ∈ B, decide (m < i) = decide (v < i)) := by decide +kernel
theorem cov_a : ∀ U ∈ subs cUs, ∀ N ∈ subs cNs, ∀ v ∈ Aall, ∃ a ∈ canS U N, (∀ s ∈ U, undr a s = undr v s) ∧ (∀ s ∈ N, undr a s = undr v s) := by decide +kernel
theorem cov_w : ∀ b1 b2 b3 b4, ∀ v ∈ Tall, ∃ t ∈ textsC (wsB b1 b2 b3 b4), ∀ w ∈ wsB b1 b2 b3 b4, decide (w ∈ splitC 32 t) = decide (w ∈ splitC 32 v) := by decide +kernel
end K77

set_option Elab.async false
set_option linter.all false
set_option maxRecDepth 100000
set_option maxHeartbeats 4000000
/-! K77p: plain: for each row a sample; rules that can go. -/
namespace K77
open PySem PySem.Spec PyProof.Rows L2 Pi
theorem subI {g : Cd → Option Int} {rs : List Rule} {U : List Int} (h : ∀ i ∈ ofI g rs, i ∈ U) : ∀ x, x ∈ ofI g rs ↔ x ∈ U.filter fun i => decide (i ∈ ofI g rs) := fun x => by
  rw [List.mem_filter, decide_eq_true_eq]
  exact ⟨fun q => ⟨h x q, q⟩, fun q => q.2⟩
theorem subS {g : Cd → Option (List Nat)} {rs : List Rule} {U : List (List Nat)} (h : ∀ i ∈ ofS g rs, i ∈ U) : ∀ x, x ∈ ofS g rs ↔ x ∈ U.filter fun i => decide (i ∈ ofS g rs) := fun x => by
  rw [List.mem_filter, decide_eq_true_eq]
  exact ⟨fun q => ⟨h x q, q⟩, fun q => q.2⟩
theorem cover {rs : List Rule} (h : RsU rs) {v : Row} (hv : DomR v) : ∃ s ∈ sampOf rs, ∀ c ∈ condsOf rs, keep s c = keep v c := by
  have hF := subI (g := gF) (rs := rs) (U := cFs) fun i hi => c25_frm i (h.cm _ ((memI hgF).mp hi))
  have hT := subI (g := gT) (rs := rs) (U := cTs) fun i hi => c25_til i (h.cm _ ((memI hgT).mp hi))
  have hA := subI (g := gA) (rs := rs) (U := cAs) fun i hi => c25_abv i (h.cm _ ((memI hgA).mp hi))
  have hB := subI (g := gB) (rs := rs) (U := cBs) fun i hi => c25_bel i (h.cm _ ((memI hgB).mp hi))
  have hU := subS (g := gU) (rs := rs) (U := cUs) fun i hi => c25_und i (h.cm _ ((memS hgU).mp hi))
  have hN := subS (g := gN) (rs := rs) (U := cNs) fun i hi => c25_nt i (h.cm _ ((memS hgN).mp hi))
  obtain ⟨d, hd, d1, d2⟩ := cov_d _ (filter_subs (fun i => decide (i ∈ ofI gF rs)) cFs) _ (filter_subs (fun i => decide (i ∈ ofI gT rs)) cTs) v.d hv.d
  obtain ⟨m, hm, m1, m2⟩ := cov_m _ (filter_subs (fun i => decide (i ∈ ofI gB rs)) cBs) _ (filter_subs (fun i => decide (i ∈ ofI gA rs)) cAs) v.m hv.m
  obtain ⟨a, ha, a1, a2⟩ := cov_a _ (filter_subs (fun i => decide (i ∈ ofS gU rs)) cUs) _ (filter_subs (fun i => decide (i ∈ ofS gN rs)) cNs) v.a hv.a
  obtain ⟨w, hw, w1⟩ := cov_w (decide (wA25 ∈ ofS gW rs)) (decide (wB14 ∈ ofS gW rs)) (decide (wRent ∈ ofS gW rs)) (decide (wX ∈ ofS gW rs)) v.w hv.w
  rw [← canI_congr hF hT] at hd
  rw [← canI_congr hB hA] at hm
  rw [← canS_congr hU hN] at ha
  refine ⟨⟨d, a, m, w⟩, mem_rowsN.mpr ⟨hd, ha, hm, hw⟩, fun c hc => ?_⟩
  cases c with
  | frm i => exact d1 i ((hF i).mp ((memI hgF).mpr hc))
  | til i => exact d2 i ((hT i).mp ((memI hgT).mpr hc))
  | abv i => exact m1 i ((hA i).mp ((memI hgA).mpr hc))
  | bel i => exact m2 i ((hB i).mp ((memI hgB).mpr hc))
  | under s => exact a1 s ((hU s).mp ((memS hgU).mpr hc))
  | nt s =>
    have := a2 s ((hN s).mp ((memS hgN).mpr hc))
    show (!undr a s) = !undr v.a s
    rw [this]
  | wrd s =>
    have hs : s ∈ ofS gW rs := (memS hgW).mpr hc
    have h2 : ∀ x ∈ WU, x ∈ ofS gW rs → x ∈ wsC (ofS gW rs) := fun x hx hxx => by
      have := wsC_sorted (K := (ofS gW rs).eraseDups) (W := ofS gW rs) (nodup_eraseDups _) (fun s => List.mem_eraseDups) h.hu
      rw [← this, (srtS_perm _).mem_iff, List.mem_eraseDups]
      exact hxx
    exact w1 s (h2 s (h.hu s hs) hs)
/-! targets hang on what is kept -/
theorem all_keep {rs : List Rule} {s v : Row} (h : ∀ c ∈ condsOf rs, keep s c = keep v c) {q : Rule} (hq : q ∈ rs) : q.1.all (keep s) = q.1.all (keep v) := by
  rw [Bool.eq_iff_iff, List.all_eq_true, List.all_eq_true]
  have : ∀ c ∈ q.1, keep s c = keep v c := fun c hc => h c (by unfold condsOf; exact List.mem_flatMap.mpr ⟨q, hq, hc⟩)
  exact ⟨fun k c hc => (this c hc) ▸ k c hc, fun k c hc => (this c hc).symm ▸ k c hc⟩
theorem find_congr' {α : Type} {p q : α → Bool} : ∀ {l : List α}, (∀ x ∈ l, p x = q x) → l.find? p = l.find? q
  | [], _ => rfl
  | a :: r, h => by
    rw [List.find?_cons, List.find?_cons, h a List.mem_cons_self, find_congr' fun x hx => h x (List.mem_cons_of_mem _ hx)]
theorem target_keep {rs : List Rule} {s v : Row} (h : ∀ c ∈ condsOf rs, keep s c = keep v c) : target rs s = target rs v := by
  unfold target
  rw [find_congr' fun q hq => all_keep h hq]
theorem conds_sub {rs ss : List Rule} (h : ∀ q ∈ ss, q ∈ rs) : ∀ c ∈ condsOf ss, c ∈ condsOf rs := fun c hc => by
  unfold condsOf at *
  obtain ⟨q, hq, hc⟩ := List.mem_flatMap.mp hc
  exact List.mem_flatMap.mpr ⟨q, h q hq, hc⟩
def Same (rs ss : List Rule) : Prop := ∀ r, DomR r → target rs r = target ss r
theorem same_samp {rs ss : List Rule} (h : RsU rs) (hs : ∀ q ∈ ss, q ∈ rs) : (∀ s ∈ sampOf rs, target rs s = target ss s) ↔ Same rs ss := by
  constructor
  · intro hh r hr
    obtain ⟨s, h1, h2⟩ := cover h hr
    rw [← target_keep h2, ← target_keep fun c hc => h2 c (conds_sub hs c hc)]
    exact hh s h1
  · exact fun hh s h1 => hh s (samp_dom h s h1)
/-! rules that can go -/
def app (q : Rule) (r : Row) : Bool := q.1.all (keep r)
theorem target_nil (r : Row) : target [] r = none := rfl
theorem target_pos {q : Rule} {rs : List Rule} {r : Row} (h : app q r = true) : target (q :: rs) r = some q.2 := by
  unfold target app at *; rw [List.find?_cons, h]; rfl
theorem target_neg {q : Rule} {rs : List Rule} {r : Row} (h : app q r = false) : target (q :: rs) r = target rs r := by
  unfold target app at *; rw [List.find?_cons, h]
theorem target_pre {rs : List Rule} {r : Row} : ∀ {P : List Rule}, (∀ p ∈ P, app p r = false) → target (P ++ rs) r = target rs r
  | [], _ => rfl
  | p :: P, h => by rw [List.cons_append, target_neg (h p List.mem_cons_self), target_pre fun x hx => h x (List.mem_cons_of_mem _ hx)]
theorem target_hit {rs ss : List Rule} {r : Row} : ∀ {P : List Rule}, (∃ p ∈ P, app p r = true) → target (P ++ rs) r = target (P ++ ss) r
  | [], h => by obtain ⟨p, hp, _⟩ := h; simp at hp
  | p :: P, h => by
    rw [List.cons_append, List.cons_append]
    cases e : app p r with
    | true => rw [target_pos e, target_pos e]
    | false =>
      rw [target_neg e, target_neg e]
      refine target_hit ?_
      obtain ⟨x, hx, h1⟩ := h
      rcases List.mem_cons.mp hx with e2 | hx
      · subst e2; rw [e] at h1; cases h1
      · exact ⟨x, hx, h1⟩
/-- each rule of T is needed behind P -/
def Ndd (P T : List Rule) : Prop := ∀ A q B, T = A ++ q :: B → ∃ r, DomR r ∧ (∀ p ∈ P ++ A, app p r = false) ∧ app q r = true ∧ target B r ≠ some q.2
theorem ndd_step {P T : List Rule} {q : Rule} (h : Ndd (P ++ [q]) T) (d : ¬ Same (P ++ q :: T) (P ++ T)) : Ndd P (q :: T) := by
  have : ∃ r, DomR r ∧ target (P ++ q :: T) r ≠ target (P ++ T) r := by
    unfold Same at d
    exact Classical.byContradiction fun hc => d fun r hr => Classical.byContradiction fun hn => hc ⟨r, hr, hn⟩
  obtain ⟨r, hr, hd⟩ := this
  have hP : ∀ p ∈ P, app p r = false := fun p hp => by
    cases e : app p r with
    | false => rfl
    | true => exact absurd (target_hit ⟨p, hp, e⟩) hd
  rw [target_pre hP, target_pre hP] at hd
  have hq : app q r = true := by
    cases e : app q r with
    | true => rfl
    | false => exact absurd (target_neg e) hd
  rw [target_pos hq] at hd
  intro A x B e
  cases A with
  | nil =>
    cases e
    exact ⟨r, hr, by simpa using hP, hq, fun z => hd z.symm⟩
  | cons a A =>
    cases e
    obtain ⟨r2, h1, h2, h3, h4⟩ := h A x B rfl
    refine ⟨r2, h1, fun p hp => h2 p ?_, h3, h4⟩
    simp only [List.append_assoc, List.singleton_append]
    exact hp
theorem ndd_less {P T : List Rule} {q : Rule} (h : Ndd (P ++ [q]) T) : Ndd P T := fun A x B e => by
  obtain ⟨r2, h1, h2, h3, h4⟩ := h A x B e
  exact ⟨r2, h1, fun p hp => h2 p (by rcases List.mem_append.mp hp with z | z <;> simp [z]), h3, h4⟩
theorem ndd_end {T : List Rule} (h : Ndd [] T) {j : Nat} (hj : j < T.length) : ¬ Same T (T.eraseIdx j) := fun hs => by
  have e : T = T.take j ++ T[j] :: T.drop (j + 1) := by simp
  obtain ⟨r, h1, h2, h3, h4⟩ := h _ _ _ e
  have := hs r h1
  have h2' : ∀ p ∈ T.take j, app p r = false := fun p hp => h2 p (by simpa using hp)
  rw [List.eraseIdx_eq_take_drop_succ, target_pre h2'] at this
  rw [← this] at h4
  apply h4
  have e3 : target T r = target (T.take j ++ T[j] :: T.drop (j + 1)) r := by rw [← e]
  rw [e3, target_pre h2', target_pos h3]
open Classical in
noncomputable def fstep (left : List Rule) (k : Nat) : List Rule := if Same left (left.eraseIdx k) then left.eraseIdx k else left
open Classical in
theorem fewer_law (rs : List Rule) : ∀ (m : Nat) (T : List Rule), m ≤ rs.length → Ndd (rs.take m) T → ∃ L, ((List.range m).reverse.foldl fstep (rs.take m ++ T)) = L ∧ L.Sublist (rs.take m ++ T) ∧ Same L (rs.take m ++ T) ∧ Ndd [] L
  | 0, T, _, h => ⟨T, by simp, by simp, by rw [List.take_zero, List.nil_append]; exact fun r hr => rfl, by simpa using h⟩
  | m + 1, T, hm, h => by
    have e : rs.take (m + 1) = rs.take m ++ [rs[m]] := by
      rw [List.take_succ, List.getElem?_eq_getElem (by omega)]; rfl
    have er : (List.range (m + 1)).reverse = m :: (List.range m).reverse := by
      rw [List.range_succ, List.reverse_append]; rfl
    have hl : (rs.take m).length = m := by rw [List.length_take]; omega
    have ee : (rs.take (m + 1) ++ T).eraseIdx m = rs.take m ++ T := by
      rw [e, List.append_assoc, List.eraseIdx_append_of_length_le (by omega), hl, Nat.sub_self]
      rfl
    rw [er, List.foldl_cons]
    unfold fstep
    rw [ee]
    have e2 : rs.take (m + 1) ++ T = rs.take m ++ (rs[m] :: T) := by rw [e, List.append_assoc]; rfl
    split
    · rename_i hs
      obtain ⟨L, h1, h2, h3, h4⟩ := fewer_law rs m T (by omega) (ndd_less (e ▸ h))
      refine ⟨L, h1, h2.trans ?_, fun r hr => (h3 r hr).trans (hs r hr).symm, h4⟩
      rw [e2]
      exact (List.Sublist.refl _).append (List.sublist_cons_self _ _)
    · rename_i hs
      rw [e2] at hs ⊢
      exact fewer_law rs m (rs[m] :: T) (by omega) (ndd_step (e ▸ h) hs)
/-- the first rule of a row, one rule out -/
theorem target_erase {r : Row} : ∀ {rs : List Rule} {k : Nat}, firstR rs r ≠ some k → target (rs.eraseIdx k) r = target rs r
  | [], k, _ => by simp
  | q :: rs, 0, h => by
    have : app q r = false := by
      cases e : app q r with
      | false => rfl
      | true => exact absurd (by unfold firstR; rw [List.findIdx?_cons]; unfold app at e; rw [e]; rfl) h
    rw [List.eraseIdx_cons_zero, target_neg this]
  | q :: rs, k + 1, h => by
    rw [List.eraseIdx_cons_succ]
    cases e : app q r with
    | true => rw [target_pos e, target_pos e]
    | false =>
      rw [target_neg e, target_neg e]
      refine target_erase fun z => h ?_
      unfold firstR at z ⊢
      unfold app at e
      rw [List.findIdx?_cons, e, z]
      rfl
theorem target_first {rs : List Rule} {r : Row} {k : Nat} (h : firstR rs r = some k) : ∃ q, rs[k]? = some q ∧ target rs r = some q.2 := by
  have hb := find_first rs r
  rw [h, Option.bind_some] at hb
  have hk := first_lt h
  refine ⟨rs[k], by simp, ?_⟩
  unfold target
  rw [← hb, List.getElem?_eq_getElem hk]
  rfl
end K77

set_option Elab.async false
set_option linter.all false
set_option maxRecDepth 100000
set_option maxHeartbeats 4000000
/-! K77q: idle, fewer, sorted_by, _law_kept. -/
namespace K77
open PySem PySem.Spec PyProof.Rows L2 Pi
def idleB (rs : List Rule) (k : Nat) : Bool := (sampOf rs).all fun s => decide (target rs s = target (rs.eraseIdx k) s)
theorem isNon_find {l : List Row} {p : Row → Bool} : (orE (l.find? p)).isNon = l.all fun x => !p x := by
  cases h : l.find? p with
  | none =>
    rw [List.find?_eq_none] at h
    show true = _
    symm
    rw [List.all_eq_true]
    intro x hx
    have := h x hx
    simp at this
    simp [this]
  | some r =>
    show false = _
    symm
    rw [List.all_eq_false]
    exact ⟨r, List.mem_of_find?_eq_some h, by have := List.find?_some h; simp [this]⟩
theorem mem_erase {rs : List Rule} {k : Nat} : ∀ q ∈ rs.eraseIdx k, q ∈ rs := fun q hq => (List.eraseIdx_sublist rs k).subset hq
theorem apart_erase {rs : List Rule} (h : RsU rs) (n : rs.length ≤ 8) (k : Nat) : ∃ d, f_apart [rsE rs, rsE (rs.eraseIdx k)] = .ok (.fz, d) ∧ d.isNon = idleB rs k := by
  have hs := h.sub (List.eraseIdx_sublist rs k)
  have hl : (rs.eraseIdx k).length ≤ 8 := Nat.le_trans (List.eraseIdx_sublist rs k).length_le n
  have hc := sampOf_congr (sameC_app (mem_erase (rs := rs) (k := k)))
  have ha := apart_eq h hs n hl fun r hr => (samp_dom h r (hc ▸ hr)).ok
  refine ⟨_, ha, ?_⟩
  rw [isNon_find, hc]
  unfold idleB
  congr 1
  funext s
  by_cases e : target rs s = target (rs.eraseIdx k) s <;> simp [e]
theorem idle_eq {rs : List Rule} (h : RsU rs) (n : rs.length ≤ 8) : fidle [rsE rs] = .ok (.fz, .tup (((List.range rs.length).filter (idleB rs)).map fun (k : Nat) => .int (k : Nat))) := by
  unfold fidle bfidle
  have hr := rng_nat .fz (n := rs.length) (by omega)
  have hlc : lcK tfidle (.var 1) [1] (.nm 1) (.so (.op (.is false) (.call 1 (.cons (.var 0) (.cons (.call 2 (.cons (.var 0) (.cons (.var 1) .nil))) .nil))) (.con .non))) [some (false, rsE rs), none] ((List.range rs.length).map fun (k : Nat) => .int (k : Nat)) = .ok (.ow, .lst (((List.range rs.length).filter (idleB rs)).map fun (k : Nat) => .int (k : Nat))) :=
    lcK_at (idleB rs) (fun (k : Nat) => .int (k : Nat)) (by rw [sz_line, List.length_range]; omega) (fun _ => rfl) fun k hk => by
      obtain ⟨d, h1, h2⟩ := apart_erase h n k
      have h3 := without_eq rs k (by omega)
      refine ⟨[some (false, rsE rs), some (false, .int (k : Nat))], by simp [wipeR, bindT, setR], ?_, fun _ => by simp⟩
      simp [tfidle, callG, h1, h3, h2]
  have hT : tupG (.ow, .lst (((List.range rs.length).filter (idleB rs)).map fun (k : Nat) => D.int (k : Nat))) = some (.fz, .tup (((List.range rs.length).filter (idleB rs)).map fun (k : Nat) => D.int (k : Nat))) := by
    unfold tupG
    simp only
    rw [if_pos (elOk_atoms (atoms_map _ (fun _ => rfl) _))]
  have hck := check1 h n
  have ht : ∀ as, callK tfidle 0 as = callG fcheck_rules as := fun _ => rfl
  rw [runF_eq]
  simp [lstG, lmo, callG, hck, hr, hlc, hT, -callK_eq, ht]
theorem idleB_iff {rs : List Rule} (h : RsU rs) (k : Nat) : idleB rs k = true ↔ Same rs (rs.eraseIdx k) := by
  rw [← same_samp h mem_erase]
  unfold idleB
  rw [List.all_eq_true]
  exact ⟨fun z s hs => by simpa using z s hs, fun z s hs => by simpa using z s hs⟩
theorem fewer_eq {rs : List Rule} (h : RsU rs) (n : rs.length ≤ 8) : ffewer [rsE rs] = .ok (.fz, rsE ((List.range rs.length).reverse.foldl fstep rs)) := by
  unfold ffewer bffewer
  refine runF_of (.ok (.rt .fz (rsE ((List.range rs.length).reverse.foldl fstep rs)))) ?_ rfl
  have hck := check1 h n
  rw [exs_seq (ρ' := [some (false, rsE rs), none, none]) (by
    have ht : ∀ as, callK tffewer 0 as = callG fcheck_rules as := fun _ => rfl
    simp [lstG, lmo, callG, hck, -callK_eq, ht])]
  rw [exs_seq (ρ' := [some (false, rsE rs), some (false, rsE rs), none]) (by simp)]
  have hit : evi tffewer (.of (.rev (.lrng .no (.bi .len (.cons (.var 0) .nil))))) [some (false, rsE rs), some (false, rsE rs), none] = .ok ((List.range rs.length).reverse.map fun (k : Nat) => .int (k : Nat)) := by
    have h1 : lrG none (.fz, .int ((rs.length : Nat) : Int)) = some (.ow, .lst ((List.range rs.length).map fun (k : Nat) => .int (k : Nat))) := by
      have e : lrG none (.fz, .int ((rs.length : Nat) : Int)) = if okI ((rs.length : Nat) : Int) = true ∧ ((rs.length : Nat) : Int).toNat ≤ 2 ^ 24 then some (.ow, .lst (rgD 0 1 ((rs.length : Nat) : Int).toNat)) else none := by simp only [lrG]
      rw [e, if_pos ⟨okI_nat (by omega), by rw [Int.toNat_natCast]; omega⟩, Int.toNat_natCast]
      unfold rgD
      simp
    have ha : ∀ l : List Nat, (l.map fun (k : Nat) => D.int (k : Nat)).all D.atom = true := fun l => atoms_map _ (fun _ => rfl) _
    have h2 : revG (.ow, .lst ((List.range rs.length).map fun (k : Nat) => .int (k : Nat))) = some (.ow, .lst ((List.range rs.length).reverse.map fun (k : Nat) => .int (k : Nat))) := by
      unfold revG
      simp only
      rw [if_pos (elOk_atoms (ha _)), ← List.map_reverse, lmo_atoms (ha _)]
    refine evi_ow ?_ (ha _)
    simp [h1, h2, -List.map_reverse]
  refine exs_fold (fun (s : List Rule) ρ => (∃ a, ρ = [some (false, rsE rs), some (false, rsE s), a]) ∧ s.Sublist rs) fstep rs hit ⟨⟨_, rfl⟩, List.Sublist.refl _⟩ (fun s k ρ hk ⟨⟨a, e⟩, hs⟩ => ?_) fun ρ ⟨⟨a, e⟩, hs⟩ => ?_
  · subst e
    have hu := h.sub hs
    have hn : s.length ≤ 8 := Nat.le_trans hs.length_le n
    obtain ⟨d, h1, h2⟩ := apart_erase hu hn k
    have h3 := without_eq s k (by omega)
    refine ⟨[some (false, rsE rs), some (false, rsE s), some (false, .int (k : Nat))], by simp [bindT, setR], [some (false, rsE rs), some (false, rsE (fstep s k)), some (false, .int (k : Nat))], .inl ?_, ⟨_, rfl⟩, ?_⟩
    · by_cases hi : Same s (s.eraseIdx k)
      · have e1 : fstep s k = s.eraseIdx k := if_pos hi
        rw [(idleB_iff hu k).mpr hi] at h2
        rw [e1]
        simp [tffewer, callG, h1, h3, h2]
      · have e1 : fstep s k = s := if_neg hi
        have h2' : idleB s k = false := by
          cases q : idleB s k with
          | false => rfl
          | true => exact absurd ((idleB_iff hu k).mp q) hi
        rw [h2'] at h2
        rw [e1]
        simp [tffewer, callG, h1, h3, h2]
    · by_cases hi : Same s (s.eraseIdx k)
      · rw [show fstep s k = s.eraseIdx k from if_pos hi]; exact (List.eraseIdx_sublist s k).trans hs
      · rw [show fstep s k = s from if_neg hi]; exact hs
  · subst e
    simp
/-! bank rows -/
theorem dom_bank : (∀ d ∈ Dall, isT (fis_day [.int d]) = true) ∧ (∀ a ∈ Aall, isT (fis_account [.str a]) = true) ∧ (∀ m ∈ Mall, isT (fis_amount [.int m]) = true) ∧ (∀ w ∈ Tall, isT (fare_words [.str w]) = true) := by decide +kernel
theorem bank_eq {r : Row} (h : DomR r) : fis_bank_row [r.enc] = .ok (.fz, .bl true) := by
  unfold fis_bank_row bfis_bank_row
  have h1 := isT_eq (dom_bank.1 _ h.d)
  have h2 := isT_eq (dom_bank.2.1 _ h.a)
  have h3 := isT_eq (dom_bank.2.2.1 _ h.m)
  have h4 := isT_eq (dom_bank.2.2.2 _ h.w)
  rw [runF_eq]
  simp [Row.enc, tfis_bank_row, callG, h1, h2, h3, h4]
theorem sortedby_eq {rs : List Rule} (h : RsU rs) (n : rs.length ≤ 8) {r : Row} (hr : DomR r) : fsorted_by [rsE rs, r.enc] = .ok (.fz, oiE (firstR rs r)) := by
  unfold fsorted_by bfsorted_by
  have hck := check1 h n
  have h1 := bank_eq hr
  have h2 := found_eq rs r h.ok hr.ok
  have h3 : r.enc.atom = true := rfl
  rw [runF_eq]
  simp [tfsorted_by, lstG, lmo, callG, hck, h1, h2, h3]
def keptD (rs : List Rule) (r : Row) : List D := rs.map fun q => .lst (q.1.map fun c => .bl (keep r c))
theorem lkept_eq {rs : List Rule} (h : RsU rs) (hn : rs ≠ []) {r : Row} (hr : RowOk r) : f_law_kept [rsE rs, r.enc] = .ok (.fz, .lst (keptD rs r)) := by
  unfold f_law_kept bf_law_kept
  have hl : lcK tf_law_kept (.lc (.call 0 (.cons (.var 1) (.cons (.var 4) (.cons (.var 5) .nil)))) [4, 5] (.tp [(.nm 4), (.nm 5)]) (.of (.var 2)) .no) [2, 3] (.tp [(.nm 2), (.nm 3)]) .no [some (false, rsE rs), some (false, r.enc), none, none, none, none] (rs.map ruE) = .ok (lmo (keptD rs r), .lst (keptD rs r)) := by
    have := lcK_of (T := tf_law_kept) (e := .lc (.call 0 (.cons (.var 1) (.cons (.var 4) (.cons (.var 5) .nil)))) [4, 5] (.tp [(.nm 4), (.nm 5)]) (.of (.var 2)) .no) (vs := [2, 3]) (tg := .tp [(.nm 2), (.nm 3)]) (c := .no) (ρ := [some (false, rsE rs), some (false, r.enc), none, none, none, none]) (enc := ruE) (fun _ => true) (fun q => .lst (q.1.map fun c => .bl (keep r c))) (l := rs) (by have := h.n; rw [sz_line]; omega) fun q hq => by
      refine ⟨[some (false, rsE rs), some (false, r.enc), some (false, .tup (q.1.map Cd.enc)), some (false, .str q.2), none, none], by simp [wipeR, bindT, bindTs, setR, ruE], by simp, fun _ => ⟨.ow, by decide, ?_⟩⟩
      have h2 : lcK tf_law_kept (.call 0 (.cons (.var 1) (.cons (.var 4) (.cons (.var 5) .nil)))) [4, 5] (.tp [(.nm 4), (.nm 5)]) .no [some (false, rsE rs), some (false, r.enc), some (false, .tup (q.1.map Cd.enc)), some (false, .str q.2), none, none] (q.1.map Cd.enc) = .ok (.ow, .lst (q.1.map fun c => .bl (keep r c))) :=
        lcK_bl (keep r) (by have := h.l q hq; rw [sz_line]; omega) fun c hc => by
          refine ⟨[some (false, rsE rs), some (false, r.enc), some (false, .tup (q.1.map Cd.enc)), some (false, .str q.2), some (false, .str c.word), some (false, c.told)], by simp [wipeR, bindT, bindTs, setR, Cd.enc], ?_⟩
          have h3 : r.enc.atom = true := rfl
          simp [tf_law_kept, callG, h3, told_atom, lkeeps_eq r c hr (c25_ok c (h.c q hq c hc))]
      exact ev_lc_of (by simp) h2
    rw [List.filter_eq_self.mpr (fun _ _ => rfl)] at this
    exact this
  have hm : lmo (keptD rs r) = .fz := by
    unfold lmo keptD
    cases rs with
    | nil => exact absurd rfl hn
    | cons q t => rfl
  rw [hm] at hl
  refine runF_of (.ok (.rt .fz (.lst (keptD rs r)))) ?_ rfl
  show exs tf_law_kept xsC _ [some (false, rsE rs), some (false, r.enc), none, none, none, none] = _
  rw [exs_cons_s, exS_ret, ev_lc_of (l := rs.map ruE) (by simp) hl]
  rfl
end K77

set_option Elab.async false
set_option linter.all false
set_option maxRecDepth 100000
set_option maxHeartbeats 4000000
/-! K77r: first_samples, samples_fault. -/
namespace K77
open PySem PySem.Spec PyProof.Rows L2 Pi
theorem samp_len {rs : List Rule} (h : RsU rs) : (sampOf rs).length ≤ 1456 := by
  have e := congrArg List.length (rowsN_prod (daysOf rs) (accsOf rs) (amtsOf rs) (txtsOf rs))
  rw [List.length_map, List.length_map, prod_len] at e
  simp at e
  have := many_le h
  unfold sampOf
  omega
theorem beq_oi (a b : Option Nat) : beqK (oiE a) (oiE b) = decide (a = b) := by
  cases a <;> cases b <;> simp [oiE, beqK, Int.ofNat_inj]
theorem kmem_oi (k : Option Nat) : ∀ ks : List (Option Nat), kmem (ks.map oiE) (oiE k) = decide (k ∈ ks)
  | [] => by simp [kmem]
  | a :: r => by
    have ih := kmem_oi k r
    unfold kmem at ih ⊢
    rw [List.map_cons, List.any_cons, ih, beq_oi]
    simp only [List.mem_cons, eq_comm (a := k)]
    by_cases h : a = k <;> simp [h]
theorem kOk_oi (k : Option Nat) : kOk 2 (oiE k) = true := by cases k <;> rfl
theorem nkey_oi (k : Option Nat) : (oiE k).nkey.isSome = true := by cases k <;> rfl
theorem enc_atom (r : Row) : r.enc.atom = true := rfl
/-! the dict of first samples -/
abbrev Lx := List (Option Nat × Row)
def insF (rs : List Rule) (L : Lx) (r : Row) : Lx := if (L.any fun p => decide (p.1 = firstR rs r)) = true then L else L ++ [(firstR rs r, r)]
def dF (L : Lx) : D := .dic 2 (L.map fun p => oiE p.1) (L.map fun p => p.2.enc)
theorem dF_atoms (L : Lx) : (L.map fun p => p.2.enc).all D.atom = true := atoms_map (fun p : Option Nat × Row => p.2.enc) (fun _ => rfl) L
theorem kmem_L (k : Option Nat) : ∀ L : Lx, kmem (L.map fun p => oiE p.1) (oiE k) = L.any fun p => decide (p.1 = k)
  | [] => rfl
  | a :: r => by
    have ih := kmem_L k r
    unfold kmem at ih ⊢
    rw [List.map_cons, List.any_cons, List.any_cons, ih, beq_oi]
theorem dlook_L (k : Option Nat) : ∀ L : Lx, dlook (L.map fun p => oiE p.1) (L.map fun p => p.2.enc) (oiE k) = (L.find? fun p => decide (p.1 = k)).map fun p => p.2.enc
  | [] => rfl
  | a :: r => by
    rw [List.map_cons, List.map_cons, List.find?_cons]
    unfold dlook
    rw [beq_oi]
    by_cases h : a.1 = k
    · simp [h]
    · simp only [h, decide_false, Bool.false_eq_true, if_false]
      exact dlook_L k r
theorem insF_len (rs : List Rule) (L : Lx) (r : Row) : (insF rs L r).length ≤ L.length + 1 := by unfold insF; split <;> simp
theorem insFs_len (rs : List Rule) : ∀ (p : List Row) (L : Lx), (p.foldl (insF rs) L).length ≤ L.length + p.length
  | [], L => by simp
  | r :: p, L => by
    rw [List.foldl_cons, List.length_cons]
    have := insFs_len rs p (insF rs L r)
    have := insF_len rs L r
    omega
theorem insFs_find (rs : List Rule) (k : Option Nat) : ∀ (p : List Row) (L : Lx), ((p.foldl (insF rs) L).find? fun q => decide (q.1 = k)).map (·.2) = ((L.find? fun q => decide (q.1 = k)).map (·.2)).or (p.find? fun r => decide (firstR rs r = k))
  | [], L => by simp
  | r :: p, L => by
    rw [List.foldl_cons, insFs_find rs k p, List.find?_cons]
    unfold insF
    by_cases ha : (L.any fun p => decide (p.1 = firstR rs r)) = true
    · rw [if_pos ha]
      by_cases hk : firstR rs r = k
      · have : (L.find? fun q => decide (q.1 = k)).isSome = true := by
          rw [List.find?_isSome]
          obtain ⟨x, hx, h1⟩ := List.any_eq_true.mp ha
          exact ⟨x, hx, by rw [hk] at h1; exact h1⟩
        obtain ⟨y, hy⟩ := Option.isSome_iff_exists.mp this
        rw [hy]
        rfl
      · simp only [hk, decide_false]
    · rw [if_neg ha, List.find?_append]
      by_cases hk : firstR rs r = k
      · have : L.find? (fun q => decide (q.1 = k)) = none := by
          rw [List.find?_eq_none]
          intro x hx
          simp only [List.any_eq_true, not_exists, not_and] at ha
          have := ha x hx
          rw [hk] at this
          exact this
        rw [this]
        simp [hk]
      · simp only [List.find?_cons, hk, decide_false, List.find?_nil, Option.or_none]
theorem dsetd_F {rs : List Rule} {m n : Mo} (L : Lx) (r : Row) (z : L.length < 10000) : dsetd 2 (L.map fun p => oiE p.1) (L.map fun p => p.2.enc) (m, oiE (firstR rs r)) (n, r.enc) = .ok (dF (insF rs L r)) := by
  have z1 : (L.map fun p => oiE p.1).length < sizeLine := by rw [sz_line, List.length_map]; omega
  unfold dsetd insF
  simp only
  rw [kmem_L]
  by_cases ha : (L.any fun p => decide (p.1 = firstR rs r)) = true
  · rw [if_pos ha, if_pos ha, if_pos ⟨kOk_oi _, z1⟩]
    rfl
  · rw [if_neg ha, if_neg ha]
    unfold dsetG
    simp only
    rw [if_pos ⟨kOk_oi _, rfl, z1⟩]
    unfold dput
    rw [kmem_L, if_neg ha]
    unfold dF
    rw [List.map_append, List.map_append]
    rfl
def firstS (rs : List Rule) (k : Nat) : Option Row := (sampOf rs).find? fun r => decide (firstR rs r = some k)
theorem first_eq {rs : List Rule} (h : RsU rs) (n : rs.length ≤ 8) : ffirst_samples [rsE rs] = .ok (.fz, .tup ((List.range rs.length).map fun k => orE (firstS rs k))) := by
  unfold ffirst_samples bffirst_samples
  refine runF_of (.ok (.rt .fz (.tup ((List.range rs.length).map fun k => orE (firstS rs k))))) ?_ rfl
  have hck := check1 h n
  rw [exs_seq (ρ' := [some (false, rsE rs), none, none, none]) (by
    have ht : ∀ as, callK tffirst_samples 0 as = callG fcheck_rules as := fun _ => rfl
    simp [lstG, lmo, callG, hck, -callK_eq, ht])]
  rw [exs_seq (ρ' := [some (false, rsE rs), some (true, dF []), none, none]) (by simp [dicG, dputs, dF])]
  have hfs := fsamp_eq h
  have hz := samp_len h
  refine exs_pre (fun p ρ => ∃ a, ρ = [some (false, rsE rs), some (true, dF (p.foldl (insF rs) [])), a, none]) (l := sampOf rs) (enc := Row.enc)
    (evi_fz (by
      have ht : ∀ as, callK tffirst_samples 1 as = callG ffound_samples as := fun _ => rfl
      simp [callG, hfs, -callK_eq, ht])) ⟨_, rfl⟩ (fun p r post ρ e ⟨a, e2⟩ => ?_) fun ρ ⟨a, e2⟩ => ?_
  · subst e2
    have hr := samp_dom h r (by rw [e]; simp)
    have h1 := found_eq rs r h.ok hr.ok
    have hl := insFs_len rs p []
    have hp : p.length ≤ 1456 := by rw [e, List.length_append] at hz; omega
    have h2 := dsetd_F (rs := rs) (m := .fz) (n := .fz) (p.foldl (insF rs) []) r (by simp at hl; omega)
    generalize hL : p.foldl (insF rs) [] = L at *
    refine ⟨[some (false, rsE rs), some (true, dF L), some (false, r.enc), none], by simp [bindT, setR], [some (false, rsE rs), some (true, dF (insF rs L r)), some (false, r.enc), none], .inl ?_, ?_⟩
    · have ht : ∀ as, callK tffirst_samples 2 as = callG ffound_rule as := fun _ => rfl
      have ho : ownD [some (false, rsE rs), some (true, dF L), some (false, r.enc), none] 1 = .ok (2, L.map fun p => oiE p.1, L.map fun p => p.2.enc) := by
        unfold ownD dF
        simp only [List.getElem?_cons_succ, List.getElem?_cons_zero]
        rw [if_pos (dF_atoms L)]
      simp only [exs_cons_s, exS_setd, ho, rb_ok, sdK_eq]
      simp [enc_atom, callG, h1, -callK_eq, ht, h2, putO]
    · rw [List.foldl_append, hL]; exact ⟨_, rfl⟩
  · subst e2
    have hl := insFs_len rs (sampOf rs) []
    have hfi := fun k => insFs_find rs k (sampOf rs) []
    generalize (sampOf rs).foldl (insF rs) [] = L at *
    have hr := rng_nat .fz (n := rs.length) (by omega)
    have hlc : lcK tffirst_samples (.mt .get (.var 1) (.var 3)) [3] (.nm 3) .no [some (false, rsE rs), some (true, dF L), a, none] ((List.range rs.length).map fun (k : Nat) => .int (k : Nat)) = .ok (.ow, .lst ((List.range rs.length).map fun k => orE (firstS rs k))) := by
      have := lcK_at (T := tffirst_samples) (e := .mt .get (.var 1) (.var 3)) (vs := [3]) (tg := .nm 3) (c := .no) (ρ := [some (false, rsE rs), some (true, dF L), a, none]) (enc := fun (k : Nat) => .int (k : Nat)) (fun _ => true) (fun k => orE (firstS rs k)) (l := List.range rs.length) (by rw [sz_line, List.length_range]; omega) (fun k => by cases firstS rs k <;> rfl) fun k hk => by
        refine ⟨[some (false, rsE rs), some (true, dF L), a, some (false, .int (k : Nat))], by simp [wipeR, bindT, setR], by simp, fun _ => ?_⟩
        have hg : getG (.bo, dF L) (.fz, .int (k : Nat)) = some (.fz, orE (firstS rs k)) := by
          unfold getG dF
          simp only
          have h5 : dvOk .bo (L.map fun p => p.2.enc) = true := by unfold dvOk; rw [dF_atoms]; simp
          rw [if_pos ⟨h5, rfl⟩]
          have h6 := dlook_L (some k) L
          have h7 := hfi (some k)
          rw [show D.int ((k : Nat) : Int) = oiE (some k) from rfl, h6]
          simp at h7
          unfold firstS
          rw [← h7]
          cases L.find? (fun p => decide (p.1 = some k)) <;> rfl
        have hd : (dF L).atom = false := rfl
        have hrc : Mt.get.rcv (dF L) = true := rfl
        simp [hd, hrc, Mt.g, hg]
      rw [List.filter_eq_self.mpr (fun _ _ => rfl)] at this
      exact this
    have hT : tupG (.ow, .lst ((List.range rs.length).map fun k => orE (firstS rs k))) = some (.fz, .tup ((List.range rs.length).map fun k => orE (firstS rs k))) := by
      unfold tupG
      simp only
      rw [if_pos (elOk_atoms (atoms_map _ (fun k => by cases firstS rs k <;> rfl) _))]
    simp [hr, hlc, hT]
end K77

set_option Elab.async false
set_option linter.all false
set_option maxRecDepth 100000
set_option maxHeartbeats 4000000
/-! K77s: the law's rules. -/
namespace Pi
open PySem PySem.Spec PyProof.Rows L2
theorem at_mem {α : Type} {l : List α} {i : Int} (h0 : 0 ≤ i) (h1 : i < l.length) : ∃ s ∈ l, atI l i = some s := by
  obtain ⟨k, rfl⟩ := Int.eq_ofNat_of_zero_le h0
  have hk : k < l.length := by omega
  exact ⟨l[k], List.getElem_mem hk, by rw [Pi.atI_nat, List.getElem?_eq_getElem hk]⟩
theorem at_map {α : Type} (f : α → D) {l : List α} {i : Int} (h0 : 0 ≤ i) (h1 : i < l.length) : ∃ s ∈ l, atI (l.map f) i = some (f s) := by
  obtain ⟨k, rfl⟩ := Int.eq_ofNat_of_zero_le h0
  have hk : k < l.length := by omega
  exact ⟨l[k], List.getElem_mem hk, by rw [Pi.atI_nat, List.getElem?_map, List.getElem?_eq_getElem hk]; rfl⟩
theorem drop_lst (a : List D) (n : Nat) (m : Mo) (h : elOk m a = true) : slG (m, .lst a) (some (n : Int)) none = some (lmo (a.drop n), .lst (a.drop n)) := by
  unfold slG Pi.cutD
  simp only [h, if_true, HT.sIx_none, HT.sIx_nat]
  have : List.take (a.length - min n a.length) (List.drop (min n a.length) a) = a.drop n := by
    rcases Nat.le_total n a.length with h | h
    · rw [Nat.min_eq_left h, List.take_of_length_le (by rw [List.length_drop]; exact Nat.le_refl _)]
    · rw [Nat.min_eq_right h, Nat.sub_self, List.take_zero, List.drop_eq_nil_of_le h]
  rw [this]
theorem ix_lst {m n : Mo} {l : List D} {i : Int} (h : elOk m l = true) : ixG (m, .lst l) (n, .int i) = (atI l i).map fun d => (.fz, d) := by
  unfold ixG; simp only; rw [if_pos h]
theorem mod_int {m n : Mo} {i j : Int} (h : 0 < j) : at2 modG (m, .int i) (n, .int j) = some (.fz, .int (i % j)) := by
  unfold at2 modG; simp [h]
theorem fdiv_int {m n : Mo} {i j : Int} (h : 0 < j) (h2 : j.natAbs.log2 < 9000) : at2 fdivG (m, .int i) (n, .int j) = some (.fz, .int (i / j)) := by
  unfold at2 fdivG; simp [h, h2]
end Pi
namespace K77
open PySem PySem.Spec PyProof.Rows L2 Pi
def GoodDs (ds : List Int) : Prop := ds.length = 80 ∧ ∀ d ∈ ds, 0 ≤ d
theorem mul_a : mulG (.fz, .str [97]) (.fz, .int 25) = some (.fz, .str wA25) := by kernel_rfl
theorem mul_b : mulG (.fz, .str [98]) (.fz, .int 14) = some (.fz, .str wB14) := by kernel_rfl
theorem md7 {m n : Mo} {i : Int} : at2 modG (m, .int i) (n, .int 7) = some (.fz, .int (i % 7)) := mod_int (by decide)
theorem md4 {m n : Mo} {i : Int} : at2 modG (m, .int i) (n, .int 4) = some (.fz, .int (i % 4)) := mod_int (by decide)
theorem md3 {m n : Mo} {i : Int} : at2 modG (m, .int i) (n, .int 3) = some (.fz, .int (i % 3)) := mod_int (by decide)
theorem md2 {m n : Mo} {i : Int} : at2 modG (m, .int i) (n, .int 2) = some (.fz, .int (i % 2)) := mod_int (by decide)
theorem fd7 {m n : Mo} {i : Int} : at2 fdivG (m, .int i) (n, .int 7) = some (.fz, .int (i / 7)) := fdiv_int (by decide) (by decide)
/-- one condition -/
def bOne : Ss := match bf_law_rules with
  | .cons _ (.cons (.for _ _ (.cons _ (.cons (.for _ _ (.cons _ b)) _))) _) => b
  | b => b
theorem one_eq (d0 : D) (ds6 : List D) (fo : List D) (k n x : Int) (cs : List Cd) (hcs : cs.length ≤ 100) (hx : 0 ≤ x) (o9 o10 : Option (Bool × D)) :
    ∃ c ∈ conds25, ∃ o9' o10', exs tf_law_rules xsC bOne [some (false, d0), some (false, .int k), some (false, .int 1000000000000000), some (false, .int 100000), some (true, .lst fo), some (false, .int n), some (false, .lst ds6), some (true, .lst (cs.map Cd.enc)), some (false, .int x), o9, o10] =
      .ok (.nx [some (false, d0), some (false, .int k), some (false, .int 1000000000000000), some (false, .int 100000), some (true, .lst fo), some (false, .int n), some (false, .lst ds6), some (true, .lst ((cs ++ [c]).map Cd.enc)), some (false, .int x), o9', o10']) := by
  have h4 : 0 ≤ x / 7 % 4 ∧ x / 7 % 4 < 4 := by omega
  have h3 : 0 ≤ x / 7 % 3 ∧ x / 7 % 3 < 3 := by omega
  obtain ⟨u, hu, eu⟩ := at_map D.str (l := cUs) h4.1 h4.2
  obtain ⟨v, hv, ev'⟩ := at_map D.str (l := cNs) h3.1 h3.2
  obtain ⟨f, hf, ef⟩ := at_map D.int (l := cFs) h3.1 h3.2
  obtain ⟨t, ht, et⟩ := at_map D.int (l := cTs) h4.1 h4.2
  obtain ⟨a, ha, ea⟩ := at_map D.int (l := cAs) h4.1 h4.2
  obtain ⟨b, hb, eb⟩ := at_map D.int (l := cBs) h3.1 h3.2
  obtain ⟨w, hw, ew⟩ := at_map D.str (l := [wX, wRent, wA25, wB14]) h4.1 h4.2
  have hca : (cs.map Cd.enc).all D.atom = true := atoms_map Cd.enc (fun _ => rfl) cs
  have hap : ∀ c : Cd, appG (cs.map Cd.enc) (.fz, c.enc) = .ok ((cs ++ [c]).map Cd.enc) := fun c => by
    unfold appG
    rw [if_pos ⟨rfl, by rw [sz_line, List.length_map]; omega⟩, List.map_append]
    rfl
  simp only [cUs, cNs, cFs, cTs, cAs, cBs, sAB, sB, sZY, sABC, wX, wRent, List.map_cons, List.map_nil] at eu ev' ef et ea eb ew
  have hm7 : x % 7 = 0 ∨ x % 7 = 1 ∨ x % 7 = 2 ∨ x % 7 = 3 ∨ x % 7 = 4 ∨ x % 7 = 5 ∨ x % 7 = 6 := by omega
  have key : ∀ (wd : List Nat) (c : Cd), atI [D.str wU, .str wN, .str wF, .str wT, .str wA, .str wB, .str wW] (x % 7) = some (.str c.word) → 
      dlook [.str wU, .str wN, .str wF, .str wT, .str wA, .str wB, .str wW] [.str u, .str v, .int f, .int t, .int a, .int b, .str w] (.str c.word) = some c.told → ∃ o9' o10', exs tf_law_rules xsC bOne [some (false, d0), some (false, .int k), some (false, .int 1000000000000000), some (false, .int 100000), some (true, .lst fo), some (false, .int n), some (false, .lst ds6), some (true, .lst (cs.map Cd.enc)), some (false, .int x), o9, o10] =
      .ok (.nx [some (false, d0), some (false, .int k), some (false, .int 1000000000000000), some (false, .int 100000), some (true, .lst fo), some (false, .int n), some (false, .lst ds6), some (true, .lst ((cs ++ [c]).map Cd.enc)), some (false, .int x), o9', o10']) := fun wd c e1 e2 => by
    refine ⟨some (false, .str c.word), some (true, .dic 0 [.str wU, .str wN, .str wF, .str wT, .str wA, .str wB, .str wW] [.str u, .str v, .int f, .int t, .int a, .int b, .str w]), ?_⟩
    have hap := hap c
    unfold bOne bf_law_rules
    simp only [wU, wN, wF, wT, wA, wB, wW] at e1 e2 ⊢
    have hix : ixG (.bo, .dic 0 [D.str [117, 110, 100, 101, 114], D.str [110, 111, 116], D.str [102, 114, 111, 109], D.str [116, 111], D.str [97, 98, 111, 118, 101], D.str [98, 101, 108, 111, 119], D.str [119, 111, 114, 100]] [D.str u, D.str v, D.int f, D.int t, D.int a, D.int b, D.str w]) (.fz, .str c.word) = some (.fz, c.told) := by
      unfold ixG
      simp only
      rw [if_pos ⟨rfl, rfl⟩, e2]
      rfl
    have ht2 : tupDG [(.fz, .str c.word), (.fz, c.told)] = some (.fz, c.enc) := rfl
    simp [md7, md4, md3, fd7, tupDG, e1, eu, ev', ef, et, ea, eb, ew, mul_a, mul_b, dicG, kOk, D.key, dputs, dput, kmem, beqK, two, putD, ownD, putO, dsetG]
    simp [ownL, hca, hix, ht2, hap, putO]
  have hW : ∀ w, w ∈ [wX, wRent, wA25, wB14] → w ∈ WU := by decide +kernel
  have mem : ∀ c : Cd, (match c with | .under s => s ∈ cUs | .nt s => s ∈ cNs | .frm i => i ∈ cFs | .til i => i ∈ cTs | .abv i => i ∈ cAs | .bel i => i ∈ cBs | .wrd s => s ∈ WU) → c ∈ conds25 := fun c h => by
    unfold conds25
    simp only [List.mem_append, List.mem_map]
    cases c <;> simp at h ⊢ <;> exact h
  rcases hm7 with e | e | e | e | e | e | e
  · exact ⟨.under u, mem _ hu, key wU _ (by rw [e]; rfl) rfl⟩
  · exact ⟨.nt v, mem _ hv, key wU _ (by rw [e]; rfl) rfl⟩
  · exact ⟨.frm f, mem _ hf, key wU _ (by rw [e]; rfl) rfl⟩
  · exact ⟨.til t, mem _ ht, key wU _ (by rw [e]; rfl) rfl⟩
  · exact ⟨.abv a, mem _ ha, key wU _ (by rw [e]; rfl) rfl⟩
  · exact ⟨.bel b, mem _ hb, key wU _ (by rw [e]; rfl) rfl⟩
  · exact ⟨.wrd w, mem _ (hW w hw), key wU _ (by rw [e]; rfl) rfl⟩
end K77

set_option Elab.async false
set_option linter.all false
set_option maxRecDepth 100000
set_option maxHeartbeats 4000000
/-! K77t: the law's rules, all of them. -/
namespace K77
open PySem PySem.Spec PyProof.Rows L2 Pi
theorem lrules_eq {ds : List Int} (h : GoodDs ds) : ∃ rs, RsU rs ∧ rs.length ≤ 8 ∧ rs ≠ [] ∧ f_law_rules [.lst (ds.map .int)] = .ok (.fz, rsE rs) := by
  have hat : ∀ i : Int, 0 ≤ i → i < 80 → ∃ x, 0 ≤ x ∧ atI (ds.map D.int) i = some (.int x) := fun i h0 h1 => by
    obtain ⟨s, hs, e⟩ := at_map D.int (l := ds) h0 (by rw [h.1]; exact h1)
    exact ⟨s, h.2 s hs, e⟩
  obtain ⟨x0, hx0, e0⟩ : ∃ x : Int, 0 ≤ x ∧ ds[0]? = some x := ⟨ds[0]'(by rw [h.1]; decide), h.2 _ (List.getElem_mem _), List.getElem?_eq_getElem _⟩
  have hm : 0 ≤ x0 % 7 ∧ x0 % 7 < 7 := by omega
  obtain ⟨nn, hnn⟩ := Int.eq_ofNat_of_zero_le (show 0 ≤ 2 + x0 % 7 by omega)
  have hn2 : 2 ≤ nn ∧ nn ≤ 8 := by omega
  have main : ∃ rs, RsU rs ∧ rs.length = nn ∧ exs tf_law_rules xsC bf_law_rules [some (false, .lst (ds.map .int)), none, none, none, none, none, none, none, none, none, none] = .ok (.rt .fz (rsE rs)) := by
    unfold bf_law_rules
    have : (fun R => ∃ rs, RsU rs ∧ rs.length = nn ∧ R = .ok (.rt .fz (rsE rs))) (exs tf_law_rules xsC bf_law_rules [some (false, .lst (ds.map .int)), none, none, none, none, none, none, none, none, none, none]) := by
      unfold bf_law_rules
      have s1 : exS tf_law_rules xsC (.par [(2, false), (3, false), (4, true)] (.cons (.op .pow (.con (.int 10)) (.con (.int 15))) (.cons (.con (.int 100000)) (.cons (.lst .nil) .nil)))) [some (false, .lst (ds.map .int)), none, none, none, none, none, none, none, none, none, none] = .ok (.nx [some (false, .lst (ds.map .int)), none, some (false, .int 1000000000000000), some (false, .int 100000), some (true, .lst []), none, none, none, none, none, none]) := by kernel_rfl
      refine seqP (P := fun R => ∃ rs, RsU rs ∧ rs.length = nn ∧ R = .ok (.rt .fz (rsE rs))) _ s1 ?_
      have hr : rngG [(.fz, .int (2 + x0 % 7))] = .ok ((List.range nn).map fun (i : Nat) => .int (i : Nat)) := by
        rw [hnn]; exact rng_nat .fz (by omega)
      refine for_pre (P := fun R => ∃ rs, RsU rs ∧ rs.length = nn ∧ R = .ok (.rt .fz (rsE rs))) (fun p ρ => ∃ rs, RsU rs ∧ rs.length = p.length ∧ ∃ a b c d e f g, ρ = [some (false, .lst (ds.map .int)), a, some (false, .int 1000000000000000), some (false, .int 100000), some (true, .lst (rs.map ruE)), b, c, d, e, f, g]) (l := List.range nn) (enc := fun (i : Nat) => .int (i : Nat))
        (by simp [ix_lst elOk_fz, e0, md7, hr]) ⟨[], ⟨by simp, by simp, by simp, by simp⟩, rfl, _, _, _, _, _, _, _, rfl⟩ (fun p k post ρ e ⟨rs, hrs, hlen, a, b, c, d, e', f, g, e2⟩ => ?_) fun ρ ⟨rs, hrs, hlen, a, b, c, d, e', f, g, e2⟩ => ?_
      · subst e2
        have hk : k < nn ∧ p.length < nn := by
          have h1 : k ∈ List.range nn := by rw [e]; simp
          have h2 := congrArg List.length e
          rw [List.length_range, List.length_append, List.length_cons] at h2
          exact ⟨List.mem_range.mp h1, by omega⟩
        refine ⟨[some (false, .lst (ds.map .int)), some (false, .int (k : Nat)), some (false, .int 1000000000000000), some (false, .int 100000), some (true, .lst (rs.map ruE)), b, c, d, e', f, g], by simp [bindT, setR], ?_⟩
        -- own draws
        generalize hos : ds.drop (1 + 7 * k) = os
        have hol : 23 ≤ os.length := by rw [← hos, List.length_drop, h.1]; omega
        have hop : ∀ x ∈ os, 0 ≤ x := fun x hx => h.2 x (List.mem_of_mem_drop (hos ▸ hx))
        have hdr : slG (.fz, .lst (ds.map .int)) (some (1 + 7 * (k : Nat))) none = some (.ow, .lst (os.map .int)) := by
          have := drop_lst (ds.map .int) (1 + 7 * k) .fz elOk_fz
          rw [← List.map_drop, hos, lmo_atoms (int_atoms _)] at this
          rw [← this]
          congr 2
        have hml : mulG (.fz, .int 7) (.fz, .int (k : Nat)) = some (.fz, .int (7 * (k : Nat))) := by
          unfold mulG
          simp only
          rw [if_pos]
          unfold mulOk
          simp
        have hoat : ∀ i : Int, 0 ≤ i → i < 23 → ∃ x, 0 ≤ x ∧ atI (os.map D.int) i = some (.int x) := fun i h0 h1 => by
          obtain ⟨s, hs, e⟩ := at_map D.int (l := os) h0 (by omega)
          exact ⟨s, hop s hs, e⟩
        obtain ⟨y0, hy0, ey0⟩ : ∃ x : Int, 0 ≤ x ∧ os[0]? = some x := ⟨os[0]'(by omega), hop _ (List.getElem_mem _), List.getElem?_eq_getElem _⟩
        obtain ⟨y6, hy6, ey6⟩ : ∃ x : Int, 0 ≤ x ∧ os[6]? = some x := ⟨os[6]'(by omega), hop _ (List.getElem_mem _), List.getElem?_eq_getElem _⟩
        have hm4 : 0 ≤ y0 % 4 ∧ y0 % 4 < 4 := by omega
        obtain ⟨n4, hn4⟩ := Int.eq_ofNat_of_zero_le hm4.1
        refine seqP [some (false, .lst (ds.map .int)), some (false, .int (k : Nat)), some (false, .int 1000000000000000), some (false, .int 100000), some (true, .lst (rs.map ruE)), b, some (false, .lst (os.map .int)), some (true, .lst []), e', f, g] (by simp [hml, hdr, lstG, lmo]) ?_
        have hr4 : rngG [(.fz, .int (y0 % 4))] = .ok ((List.range n4).map fun (i : Nat) => .int (i : Nat)) := by
          rw [hn4]; exact rng_nat .fz (by omega)
        refine for_pre (fun p ρ => ∃ cs : List Cd, cs.length = p.length ∧ (∀ c ∈ cs, c ∈ conds25) ∧ ∃ b e f g, ρ = [some (false, .lst (ds.map .int)), some (false, .int (k : Nat)), some (false, .int 1000000000000000), some (false, .int 100000), some (true, .lst (rs.map ruE)), b, some (false, .lst (os.map .int)), some (true, .lst (cs.map Cd.enc)), e, f, g]) (l := List.range n4) (enc := fun (i : Nat) => .int (i : Nat))
          (by simp [ix_lst elOk_fz, ey0, md4, hr4]) ⟨[], rfl, by simp, _, _, _, _, rfl⟩ (fun p2 n post2 ρ e3 ⟨cs, hcl, hcm, b, e', f, g, e4⟩ => ?_) fun ρ ⟨cs, hcl, hcm, b, e', f, g, e4⟩ => ?_
        · subst e4
          have hn : n < n4 ∧ p2.length < n4 := by
            have h1 : n ∈ List.range n4 := by rw [e3]; simp
            have h2 := congrArg List.length e3
            rw [List.length_range, List.length_append, List.length_cons] at h2
            exact ⟨List.mem_range.mp h1, by omega⟩
          obtain ⟨x, hx, ex⟩ := hoat (1 + (n : Nat)) (by omega) (by omega)
          refine ⟨[some (false, .lst (ds.map .int)), some (false, .int (k : Nat)), some (false, .int 1000000000000000), some (false, .int 100000), some (true, .lst (rs.map ruE)), some (false, .int (n : Nat)), some (false, .lst (os.map .int)), some (true, .lst (cs.map Cd.enc)), e', f, g], by simp [bindT, setR], ?_⟩
          obtain ⟨c, hc, o9, o10, e5⟩ := one_eq (.lst (ds.map .int)) (os.map .int) (rs.map ruE) (k : Nat) (n : Nat) x cs (by omega) hx f g
          refine seqP [some (false, .lst (ds.map .int)), some (false, .int (k : Nat)), some (false, .int 1000000000000000), some (false, .int 100000), some (true, .lst (rs.map ruE)), some (false, .int (n : Nat)), some (false, .lst (os.map .int)), some (true, .lst (cs.map Cd.enc)), some (false, .int x), f, g] (by simp [ix_lst elOk_fz, ex]) ?_
          refine Nx.of _ e5 ⟨cs ++ [c], by rw [List.length_append, List.length_append, hcl]; rfl, ?_, _, _, _, _, rfl⟩
          intro c2 hc2
          rcases List.mem_append.mp hc2 with z | z
          · exact hcm c2 z
          · simp at z; rw [z]; exact hc
        · subst e4
          rw [List.length_range] at hcl
          have h2 : 0 ≤ y6 % 2 ∧ y6 % 2 < 2 := by omega
          obtain ⟨tg, htg, etg⟩ := at_map D.str (l := [[116], [117, 58, 118]]) h2.1 h2.2
          simp only [List.map_cons, List.map_nil] at etg
          have hT : tupG (.bo, .lst (cs.map Cd.enc)) = some (.fz, .tup (cs.map Cd.enc)) := by
            unfold tupG; simp only; rw [if_pos (elOk_atoms (atoms_map Cd.enc (fun _ => rfl) _))]
          have hra : (rs.map ruE).all D.atom = true := atoms_map ruE (fun _ => rfl) rs
          have hap : appG (rs.map ruE) (.fz, ruE (cs, tg)) = .ok ((rs ++ [(cs, tg)]).map ruE) := by
            unfold appG
            rw [if_pos ⟨rfl, by rw [sz_line, List.length_map]; omega⟩, List.map_append]
            rfl
          have ht2 : tupDG [(.fz, .tup (cs.map Cd.enc)), (.fz, .str tg)] = some (.fz, ruE (cs, tg)) := rfl
          refine Nx.of [some (false, .lst (ds.map .int)), some (false, .int (k : Nat)), some (false, .int 1000000000000000), some (false, .int 100000), some (true, .lst ((rs ++ [(cs, tg)]).map ruE)), b, some (false, .lst (os.map .int)), some (true, .lst (cs.map Cd.enc)), e', f, g] ?_ ⟨rs ++ [(cs, tg)], ⟨?_, ?_, ?_, ?_⟩, ?_, _, _, _, _, _, _, _, rfl⟩
          · simp only [exs_cons_s, exS_app, ownL, List.getElem?_cons_succ, List.getElem?_cons_zero, hra, if_true, rb_ok, appK_eq]
            have hti : tupDG [(.fz, .str [116]), (.fz, .str [117, 58, 118])] = some (.fz, .tup [.str [116], .str [117, 58, 118]]) := rfl
            simp [hT, hti, ix_lst elOk_fz, ey6, md2, etg, ht2, hap, putO]
          · intro q hq c2 hc2
            rcases List.mem_append.mp hq with z | z
            · exact hrs.c q z c2 hc2
            · simp at z; subst z; exact hcm c2 hc2
          · intro q hq
            rcases List.mem_append.mp hq with z | z
            · exact hrs.l q z
            · simp at z; subst z; show cs.length ≤ 3; omega
          · rw [List.length_append]; simp; omega
          · intro q hq
            rcases List.mem_append.mp hq with z | z
            · exact hrs.g q z
            · simp at z; subst z; simpa using htg
          · rw [List.length_append, List.length_append, hlen]; rfl
      · subst e2
        rw [List.length_range] at hlen
        have hT : tupG (.bo, .lst (rs.map ruE)) = some (.fz, rsE rs) := by
          unfold tupG; simp only; rw [if_pos (elOk_atoms (atoms_map ruE (fun _ => rfl) _))]
        exact ⟨rs, hrs, hlen, by simp [hT]⟩
    exact this
  obtain ⟨rs, h1, h2, h3⟩ := main
  refine ⟨rs, h1, by omega, ?_, ?_⟩
  · intro z; rw [z] at h2; simp at h2; omega
  · unfold f_law_rules
    exact runF_of _ h3 rfl
end K77

set_option Elab.async false
set_option linter.all false
set_option maxRecDepth 100000
set_option maxHeartbeats 4000000
/-! K77u: the law's draws. -/
namespace K77
open PySem PySem.Spec PyProof.Rows L2 Pi
theorem md_i {m n : Mo} {i : Int} : at2 modG (m, .int i) (n, .int 2147483647) = some (.fz, .int (i % 2147483647)) := mod_int (by decide)
theorem md_h {m n : Mo} {i : Int} : at2 modG (m, .int i) (n, .int 1009) = some (.fz, .int (i % 1009)) := mod_int (by decide)
theorem md_d {m n : Mo} {i : Int} : at2 modG (m, .int i) (n, .int 65521) = some (.fz, .int (i % 65521)) := mod_int (by decide)
theorem fd_h {m n : Mo} {i : Int} : at2 fdivG (m, .int i) (n, .int 1009) = some (.fz, .int (i / 1009)) := fdiv_int (by decide) (by decide +kernel)
theorem fd_3 {m n : Mo} {i : Int} : at2 fdivG (m, .int i) (n, .int 3) = some (.fz, .int (i / 3)) := fdiv_int (by decide) (by decide +kernel)
theorem mul_l {m n : Mo} {i j : Int} (h : (decide (-(2 ^ 64) < j) && decide (j < 2 ^ 64)) = true) : mulG (m, .int i) (n, .int j) = some (.fz, .int (i * j)) := by
  have : mulOk i j = true := by unfold mulOk; rw [h]; simp
  unfold mulG
  simp only
  rw [if_pos this]
theorem mu1 {m n : Mo} {i : Int} : mulG (m, .int i) (n, .int 48271) = some (.fz, .int (i * 48271)) := mul_l (by decide)
theorem mu2 {m n : Mo} {i : Int} : mulG (m, .int i) (n, .int 16807) = some (.fz, .int (i * 16807)) := mul_l (by decide)
theorem mu3 {m n : Mo} {i : Int} : mulG (m, .int i) (n, .int 69621) = some (.fz, .int (i * 69621)) := mul_l (by decide)
theorem pw18 {m n : Mo} : at2 powG (m, .int 10) (n, .int 18) = some (.fz, .int 1000000000000000000) := by kernel_rfl
theorem app_int (ds : List Int) (x : Int) (m : Mo) (h : ds.length ≤ 100000) : appG (ds.map .int) (m, .int x) = .ok ((ds ++ [x]).map .int) := by
  unfold appG
  rw [if_pos ⟨rfl, by rw [sz_line, List.length_map]; omega⟩, List.map_append]
  rfl
theorem nn_app {ds : List Int} {x : Int} (h : ∀ d ∈ ds, 0 ≤ d) (hx : 0 ≤ x) : ∀ d ∈ ds ++ [x], 0 ≤ d := fun d hd => by
  rcases List.mem_append.mp hd with z | z
  · exact h d z
  · simp at z; rw [z]; exact hx
theorem ldraws_eq (ns : List Int) : ∃ ds, GoodDs ds ∧ f_law_draws [.scr ns, .int 80] = .ok (.ow, .lst (ds.map .int)) := by
  have main : (fun R => ∃ ds, GoodDs ds ∧ R = .ok (.rt .ow (.lst (ds.map .int)))) (exs tf_law_draws xsC bf_law_draws [some (false, .scr ns), some (false, .int 80), none, none, none, none, none]) := by
    unfold bf_law_draws
    refine seqP (P := fun R => ∃ ds, GoodDs ds ∧ R = .ok (.rt .ow (.lst (ds.map .int)))) [some (false, .scr ns), some (false, .int 80), some (true, .lst []), none, none, none, none] (by simp [lstG, lmo]) ?_
    refine seqP (P := fun R => ∃ ds, GoodDs ds ∧ R = .ok (.rt .ow (.lst (ds.map .int)))) [some (false, .scr ns), some (false, .int 80), some (true, .lst []), some (false, .int 7), none, none, none] (by simp) ?_
    generalize hcs : Pi.cutD ns none (some 63) = cs
    have hcl : cs.length ≤ 63 := by
      rw [← hcs]; unfold Pi.cutD
      rw [List.length_take]
      have : HT.sIx ns.length ns.length (some 63) - HT.sIx ns.length 0 none ≤ 63 := by
        rw [HT.sIx_none, show (some (63 : Int)) = some ((63 : Nat) : Int) from rfl, HT.sIx_nat]; omega
      omega
    have hsl : slG (.fz, .scr ns) none (some 63) = some (.ow, .lst (cs.map .int)) := by unfold slG; simp only; rw [hcs]
    refine for_pre (P := fun R => ∃ ds, GoodDs ds ∧ R = .ok (.rt .ow (.lst (ds.map .int)))) (fun p ρ => ∃ (ds : List Int) (s : Int), ds.length ≤ 60 * p.length ∧ (∀ d ∈ ds, 0 ≤ d) ∧ 0 ≤ s ∧ ∃ a b c, ρ = [some (false, .scr ns), some (false, .int 80), some (true, .lst (ds.map .int)), some (false, .int s), a, b, c]) (l := cs) (enc := D.int)
      (by simp [hsl, items_ow (int_atoms _)]) ⟨[], 7, by simp, by simp, by decide, _, _, _, rfl⟩ (fun p x post ρ e ⟨ds, s, hl, hd, hs, a, b, c, e2⟩ => ?_) fun ρ ⟨ds, s, hl, hd, hs, a, b, c, e2⟩ => ?_
    · subst e2
      have hp : p.length < 63 := by rw [e, List.length_append, List.length_cons] at hcl; omega
      generalize hN : (if x < 0 then -x else x) = N
      have hN0 : 0 ≤ N := by rw [← hN]; split <;> omega
      have hab : absG (.fz, .int x) = some (.fz, .int N) := by unfold absG; simp only; rw [hN]
      generalize hS : (s * 48271 + N + 11) % 2147483647 = S
      have hS0 : 0 ≤ S := by omega
      refine ⟨[some (false, .scr ns), some (false, .int 80), some (true, .lst (ds.map .int)), some (false, .int s), some (false, .int x), b, c], by simp [bindT, setR], ?_⟩
      refine seqP [some (false, .scr ns), some (false, .int 80), some (true, .lst (ds.map .int)), some (false, .int s), some (false, .int x), b, some (false, .int N)] (by simp [hab]) ?_
      refine seqP [some (false, .scr ns), some (false, .int 80), some (true, .lst (ds.map .int)), some (false, .int S), some (false, .int x), b, some (false, .int N)] (by simp [mu1, md_i, hS]) ?_
      by_cases hb : N < 1000000000000000000
      · have hb' : (!decide (N < 1000000000000000000)) = false := by simp [hb]
        have ha := app_int ds ((S * 16807 + 5) / 3 % 65521) .fz (by omega)
        refine Nx.of [some (false, .scr ns), some (false, .int 80), some (true, .lst ((ds ++ [(S * 16807 + 5) / 3 % 65521]).map .int)), some (false, .int S), some (false, .int x), b, some (false, .int N)] ?_ ⟨_, S, ?_, nn_app hd (by omega), hS0, _, _, _, rfl⟩
        · simp only [exs_cons_s, exS_ite]
          simp [pw18, hb', hb, ownL, int_atoms, mu2, fd_3, md_d, ha, putO, -List.map_append]
        · rw [List.length_append, List.length_append]; simp; omega
      · have hb' : (!decide (N < 1000000000000000000)) = true := by simp [hb]
        have hin : ∃ (ds' : List Int) (N' : Int) (b' : Option (Bool × D)), ds'.length ≤ ds.length + 60 ∧ (∀ d ∈ ds', 0 ≤ d) ∧ exs tf_law_draws xsC (.cons (.for (.nm 5) (.rng (.cons (.con (.int 60)) .nil)) (.cons (.ite (.op (.cm .gt) (.var 6) (.con (.int 0))) (.cons (.app 2 (.op .mod (.bi .int (.cons (.var 6) .nil)) (.con (.int 1009)))) (.cons (.set 6 false (.op .fdiv (.var 6) (.con (.int 1009)))) .nil)) .nil) .nil)) .nil) [some (false, .scr ns), some (false, .int 80), some (true, .lst (ds.map .int)), some (false, .int S), some (false, .int x), b, some (false, .int N)] =
            .ok (.nx [some (false, .scr ns), some (false, .int 80), some (true, .lst (ds'.map .int)), some (false, .int S), some (false, .int x), b', some (false, .int N')]) := by
          refine for_pre (P := fun R => ∃ (ds' : List Int) (N' : Int) (b' : Option (Bool × D)), ds'.length ≤ ds.length + 60 ∧ (∀ d ∈ ds', 0 ≤ d) ∧ R = .ok (.nx [some (false, .scr ns), some (false, .int 80), some (true, .lst (ds'.map .int)), some (false, .int S), some (false, .int x), b', some (false, .int N')])) (fun p2 ρ => ∃ (ds' : List Int) (N' : Int) (b' : Option (Bool × D)), ds'.length ≤ ds.length + p2.length ∧ (∀ d ∈ ds', 0 ≤ d) ∧ 0 ≤ N' ∧ ρ = [some (false, .scr ns), some (false, .int 80), some (true, .lst (ds'.map .int)), some (false, .int S), some (false, .int x), b', some (false, .int N')]) (l := List.range 60) (enc := fun (i : Nat) => .int (i : Nat))
            (by have := rng_nat .fz (n := 60) (by decide); simp; exact this) ⟨ds, N, b, by simp, hd, hN0, rfl⟩ (fun p2 k post2 ρ e3 ⟨ds', N', b', h1, h2, h3, e4⟩ => ?_) fun ρ ⟨ds', N', b', h1, h2, h3, e4⟩ => ?_
          · subst e4
            have hp2 : p2.length < 60 := by
              have h2 := congrArg List.length e3
              rw [List.length_range, List.length_append, List.length_cons] at h2
              omega
            refine ⟨[some (false, .scr ns), some (false, .int 80), some (true, .lst (ds'.map .int)), some (false, .int S), some (false, .int x), some (false, .int (k : Nat)), some (false, .int N')], by simp [bindT, setR], ?_⟩
            by_cases hg : 0 < N'
            · have ha := app_int ds' (N' % 1009) .fz (by omega)
              refine Nx.of [some (false, .scr ns), some (false, .int 80), some (true, .lst ((ds' ++ [N' % 1009]).map .int)), some (false, .int S), some (false, .int x), some (false, .int (k : Nat)), some (false, .int (N' / 1009))] ?_ ⟨ds' ++ [N' % 1009], N' / 1009, _, ?_, nn_app h2 (by omega), by omega, rfl⟩
              · simp [hg, ownL, int_atoms, md_h, ha, putO, fd_h, -List.map_append]
              · rw [List.length_append, List.length_append]; simp; omega
            · refine Nx.of [some (false, .scr ns), some (false, .int 80), some (true, .lst (ds'.map .int)), some (false, .int S), some (false, .int x), some (false, .int (k : Nat)), some (false, .int N')] (by simp [hg]) ⟨ds', N', _, ?_, h2, h3, rfl⟩
              rw [List.length_append]; omega
          · subst e4
            rw [List.length_range] at h1
            exact ⟨ds', N', b', h1, h2, by simp⟩
        obtain ⟨ds', N', b', h1, h2, h3⟩ := hin
        refine Nx.of [some (false, .scr ns), some (false, .int 80), some (true, .lst (ds'.map .int)), some (false, .int S), some (false, .int x), b', some (false, .int N')] ?_ ⟨ds', S, ?_, h2, hS0, _, _, _, rfl⟩
        · have hcv : ev tf_law_draws (.op (.cm .ge) (.var 6) (.op .pow (.con (.int 10)) (.con (.int 18)))) [some (false, .scr ns), some (false, .int 80), some (true, .lst (ds.map .int)), some (false, .int S), some (false, .int x), b, some (false, .int N)] = .ok (.fz, .bl true) := by
            simp [pw18, hb', hb]
          rw [exs_cons_s, exS_ite, hcv, rb_ok, ifK_eq, toB_bl, rb_ok, ifB_eq, if_pos rfl, h3]
          simp
        · rw [List.length_append]; simp; omega
    · subst e2
      refine for_pre (P := fun R => ∃ ds, GoodDs ds ∧ R = .ok (.rt .ow (.lst (ds.map .int)))) (fun p ρ => ∃ (ds : List Int) (s : Int), ds.length ≤ 3780 + p.length ∧ p.length ≤ ds.length ∧ (∀ d ∈ ds, 0 ≤ d) ∧ 0 ≤ s ∧ ∃ a b c, ρ = [some (false, .scr ns), some (false, .int 80), some (true, .lst (ds.map .int)), some (false, .int s), a, b, c]) (l := List.range 80) (enc := fun (i : Nat) => .int (i : Nat))
        (by have := rng_nat .fz (n := 80) (by decide); simp; exact this) ⟨ds, s, by simp; omega, by simp, hd, hs, _, _, _, rfl⟩ (fun p k post ρ e ⟨ds, s, hl1, hl2, hd, hs, a, b, c, e2⟩ => ?_) fun ρ ⟨ds, s, hl1, hl2, hd, hs, a, b, c, e2⟩ => ?_
      · subst e2
        have hp : p.length < 80 := by
          have h2 := congrArg List.length e
          rw [List.length_range, List.length_append, List.length_cons] at h2
          omega
        refine ⟨[some (false, .scr ns), some (false, .int 80), some (true, .lst (ds.map .int)), some (false, .int s), a, some (false, .int (k : Nat)), c], by simp [bindT, setR], ?_⟩
        by_cases hg : (ds.length : Int) < 80
        · generalize hS : (s * 69621 + (k : Nat) + 1) % 2147483647 = S
          have hS0 : 0 ≤ S := by omega
          have ha := app_int ds (S / 7 % 65521) .fz (by omega)
          refine Nx.of [some (false, .scr ns), some (false, .int 80), some (true, .lst ((ds ++ [S / 7 % 65521]).map .int)), some (false, .int S), a, some (false, .int (k : Nat)), c] ?_ ⟨_, S, ?_, ?_, nn_app hd (by omega), hS0, _, _, _, rfl⟩
          · simp [hg, ownL, int_atoms, mu3, md_i, hS, fd7, md_d, ha, putO, -List.map_append]
          · rw [List.length_append, List.length_append]; simp; omega
          · rw [List.length_append, List.length_append]; simp; omega
        · refine Nx.of [some (false, .scr ns), some (false, .int 80), some (true, .lst (ds.map .int)), some (false, .int s), a, some (false, .int (k : Nat)), c] (by simp [hg]) ⟨ds, s, ?_, ?_, hd, hs, _, _, _, rfl⟩
          · rw [List.length_append]; omega
          · rw [List.length_append]; simp; omega
      · subst e2
        rw [List.length_range] at hl1 hl2
        have h1 := cut_lst (ds.map .int) 80 .bo (elOk_atoms (int_atoms _))
        rw [← List.map_take, lmo_atoms (int_atoms _)] at h1
        have h1' : slG (.bo, .lst (ds.map .int)) none (some 80) = some (.ow, .lst ((ds.take 80).map .int)) := h1
        exact ⟨ds.take 80, ⟨by rw [List.length_take]; omega, fun d hd' => hd d (List.mem_of_mem_take hd')⟩, by simp [h1', -List.map_take]⟩
  obtain ⟨ds, h1, h2⟩ := main
  exact ⟨ds, h1, by unfold f_law_draws; exact runF_of _ h2 rfl⟩
end K77

set_option Elab.async false
set_option linter.all false
set_option maxRecDepth 100000
set_option maxHeartbeats 4000000
/-! K77v: samples_fault. -/
namespace Pi
open PySem PySem.Spec PyProof.Rows L2
theorem dcL_true {α : Type} {f : D → Option (Option (D × D))} {enc g : α → D} : ∀ {l : List α} {ks : List D}, (∀ x ∈ l, f (enc x) = some (some (g x, .bl true))) → ks.length + l.length < sizeLine →
    dcL f (l.map enc) (ks, ks.map fun _ => .bl true) = some ((l.map g).foldl kins ks, ((l.map g).foldl kins ks).map fun _ => .bl true)
  | [], ks, _, _ => rfl
  | x :: r, ks, h, z => by
    rw [List.length_cons] at z
    have h1 := h x List.mem_cons_self
    have h2 := kins_le ks (g x)
    have ih := dcL_true (f := f) (enc := enc) (g := g) (l := r) (ks := kins ks (g x)) (fun y hy => h y (List.mem_cons_of_mem _ hy)) (by omega)
    rw [List.map_cons]
    unfold dcL
    rw [h1]
    simp only
    rw [if_pos (by omega), dput_true]
    exact ih
end Pi
namespace K77
open PySem PySem.Spec PyProof.Rows L2 Pi
theorem kins_oi (ks : List (Option Nat)) (k : Option Nat) : kins (ks.map oiE) (oiE k) = (nins ks k).map oiE := by
  unfold kins nins
  rw [kmem_oi]
  by_cases h : k ∈ ks <;> simp [h]
theorem kinsL_oi : ∀ (ls ks : List (Option Nat)), (ls.map oiE).foldl kins (ks.map oiE) = (ls.foldl nins ks).map oiE
  | [], ks => rfl
  | a :: r, ks => by rw [List.map_cons, List.foldl_cons, kins_oi, kinsL_oi r]; rfl
theorem range_zip {n : Nat} {x : Nat × Nat} (h : x ∈ (List.range n).zipIdx) : x.1 = x.2 ∧ x.2 < n := by
  obtain ⟨h1, h2, h3⟩ := List.mem_zipIdx h
  rw [List.length_range] at h2
  rw [List.getElem_range] at h3
  omega
theorem fault_eq {rs : List Rule} (h : RsU rs) (n : rs.length ≤ 8) : fsamples_fault [rsE rs, .tup ((List.range rs.length).map fun k => orE (firstS rs k))] = .ok (.fz, .non) := by
  unfold fsamples_fault bfsamples_fault
  refine runF_of (.ok (.rt .fz .non)) ?_ rfl
  have hck := check1 h n
  have hfs := fsamp_eq h
  have hz := samp_len h
  generalize hF : D.tup ((List.range rs.length).map fun k => orE (firstS rs k)) = F
  have hFa : F.atom = true := by rw [← hF]; rfl
  rw [exs_seq (ρ' := [some (false, rsE rs), some (false, F), none, none, none]) (by
    have ht : ∀ as, callK tfsamples_fault 0 as = callG fcheck_rules as := fun _ => rfl
    simp [lstG, lmo, callG, hck, -callK_eq, ht])]
  have hlc : lcK tfsamples_fault (.or (.op (.is false) (.var 4) (.con .non)) (.call 1 (.cons (.var 4) .nil))) [4] (.nm 4) .no [some (false, rsE rs), some (false, F), none, none, none] ((List.range rs.length).map fun k => orE (firstS rs k)) = .ok (.ow, .lst ((List.range rs.length).map fun _ => .bl true)) :=
    lcK_bl (fun _ => true) (by rw [sz_line, List.length_range]; omega) fun k hk => by
      refine ⟨[some (false, rsE rs), some (false, F), none, none, some (false, orE (firstS rs k))], by simp [wipeR, bindT, setR], ?_⟩
      cases hf : firstS rs k with
      | none => simp [orE]
      | some r =>
        have hr := samp_dom h r (by unfold firstS at hf; exact List.mem_of_find?_eq_some hf)
        have hb := bank_eq hr
        have h3 : r.enc.atom = true := rfl
        have h4 : r.enc.isNon = false := rfl
        have ht : ∀ as, callK tfsamples_fault 1 as = callG fis_bank_row as := fun _ => rfl
        simp [orE, h3, h4, callG, hb, -callK_eq, ht]
  rw [exs_seq (ρ' := [some (false, rsE rs), some (false, F), none, none, none]) (by
    rw [← hF]
    simp)]
  rw [exs_seq (ρ' := [some (false, rsE rs), some (false, F), none, none, none]) (by
    have hi : itemsG (.fz, F) = .ok ((List.range rs.length).map fun k => orE (firstS rs k)) := by rw [← hF]; rfl
    simp [hFa, hi, hlc])]
  generalize hK : ((sampOf rs).map (firstR rs)).foldl nins [] = K
  have hKm : ∀ k, k ∈ K ↔ ∃ r ∈ sampOf rs, firstR rs r = k := fun k => by
    rw [← hK, ninsL_mem, List.mem_map]
    simp
  have hdc : dcK tfsamples_fault (.call 2 (.cons (.var 0) (.cons (.var 4) .nil))) (.con (.bl true)) [4] (.nm 4) .no [some (false, rsE rs), some (false, F), none, none, none] ((sampOf rs).map Row.enc) = .ok (.ow, .dic 2 (K.map oiE) ((K.map oiE).map fun _ => .bl true)) := by
    unfold dcK dcR
    have := dcL_true (f := fun d => dcStep (bindT (.nm 4) d (wipeR [some (false, rsE rs), some (false, F), none, none, none] [4])) (fun ρ2 => evc tfsamples_fault .no ρ2) (fun ρ2 => ev tfsamples_fault (.call 2 (.cons (.var 0) (.cons (.var 4) .nil))) ρ2) (fun ρ2 => ev tfsamples_fault (.con (.bl true)) ρ2)) (enc := Row.enc) (g := fun r => oiE (firstR rs r)) (l := sampOf rs) (ks := []) (fun r hr => by
      have h1 := found_eq rs r h.ok (samp_dom h r hr).ok
      have ht : ∀ as, callK tfsamples_fault 2 as = callG ffound_rule as := fun _ => rfl
      have hb : bindT (.nm 4) r.enc (wipeR [some (false, rsE rs), some (false, F), none, none, none] [4]) = some [some (false, rsE rs), some (false, F), none, none, some (false, r.enc)] := by simp [wipeR, bindT, setR]
      have he : ev tfsamples_fault (.call 2 (.cons (.var 0) (.cons (.var 4) .nil))) [some (false, rsE rs), some (false, F), none, none, some (false, r.enc)] = .ok (.fz, oiE (firstR rs r)) := by
        simp [enc_atom, callG, h1, -callK_eq, ht]
      unfold dcStep
      rw [hb]
      simp only [evc_no, he, ev_con]
      rw [if_pos ⟨nkey_oi _, rfl⟩]) (by rw [sz_line]; simp; omega)
    rw [show (([] : List D), ([] : List D)) = ([], ([] : List D).map fun _ => D.bl true) from rfl, this]
    have e : ((sampOf rs).map fun r => oiE (firstR rs r)).foldl kins [] = K.map oiE := by
      have := kinsL_oi ((sampOf rs).map (firstR rs)) []
      rw [hK, List.map_map] at this
      exact this
    rw [e]
  rw [exs_seq (ρ' := [some (false, rsE rs), some (false, F), some (false, .dic 2 (K.map oiE) ((K.map oiE).map fun _ => .bl true)), none, none]) (by
    have ht : ∀ as, callK tfsamples_fault 3 as = callG ffound_samples as := fun _ => rfl
    have hit : evi tfsamples_fault (.of (.call 3 (.cons (.var 0) .nil))) [some (false, rsE rs), some (false, F), none, none, none] = .ok ((sampOf rs).map Row.enc) := evi_fz (by simp [callG, hfs, -callK_eq, ht])
    rw [exS_set, ev_dc, hit, rb_ok, hdc]
    rfl)]
  refine exs_find (fun ρ => ∃ a b, ρ = [some (false, rsE rs), some (false, F), some (false, .dic 2 (K.map oiE) ((K.map oiE).map fun _ => .bl true)), a, b]) (fun _ => false) (fun _ => .rt .fz .non) (l := (List.range rs.length).zipIdx) (enc := fun p : Nat × Nat => .tup [.int (p.2 : Nat), orE (firstS rs p.1)])
    (by
      have := enumG_tup (fun k => orE (firstS rs k)) .fz (List.range rs.length)
      rw [hF] at this
      simp [hFa]
      exact this) ⟨_, _, rfl⟩ (fun x ρ hx ⟨a, b, e⟩ => ?_) (fun x hx => ?_) fun hx ρ ⟨a, b, e⟩ => ?_
  · subst e
    obtain ⟨hx1, hx2⟩ := range_zip hx
    refine ⟨[some (false, rsE rs), some (false, F), some (false, .dic 2 (K.map oiE) ((K.map oiE).map fun _ => .bl true)), some (false, .int (x.2 : Nat)), some (false, orE (firstS rs x.1))], by simp [bindT, bindTs, setR], ⟨fun hp => absurd hp (by decide), fun _ => ?_⟩⟩
    refine ⟨[some (false, rsE rs), some (false, F), some (false, .dic 2 (K.map oiE) ((K.map oiE).map fun _ => .bl true)), some (false, .int (x.2 : Nat)), some (false, orE (firstS rs x.1))], .inl ?_, _, _, rfl⟩
    rw [hx1]
    cases hf : firstS rs x.2 with
    | none =>
      have hkm := kmem_oi (some x.2) K
      have hno : ¬ (some x.2 ∈ K) := fun z => by
        obtain ⟨r, hr, e⟩ := (hKm _).mp z
        unfold firstS at hf
        rw [List.find?_eq_none] at hf
        have := hf r hr
        rw [e] at this
        simp at this
      rw [decide_eq_false hno] at hkm
      have hin : blG false inD2 (.fz, .int (x.2 : Nat)) (.fz, .dic 2 (K.map oiE) ((K.map oiE).map fun _ => .bl true)) = some (.fz, .bl false) := by
        unfold blG inD2
        simp only
        rw [if_pos ⟨.inr trivial, rfl⟩]
        rw [show D.int ((x.2 : Nat) : Int) = oiE (some x.2) from rfl, hkm]
        rfl
      simp at hin
      simp [orE, hin]
    | some r =>
      unfold firstS at hf
      have hr := samp_dom h r (List.mem_of_find?_eq_some hf)
      have hp := List.find?_some hf
      simp at hp
      have h1 := found_eq rs r h.ok hr.ok
      rw [hp] at h1
      have h3 : r.enc.atom = true := rfl
      have h4 : r.enc.isNon = false := rfl
      have ht : ∀ as, callK tfsamples_fault 2 as = callG ffound_rule as := fun _ => rfl
      simp [orE, h3, h4, callG, h1, oiE, -callK_eq, ht]
  · have := List.find?_some hx; cases this
  · subst e
    simp
end K77

set_option Elab.async false
set_option linter.all false
set_option maxRecDepth 100000
set_option maxHeartbeats 4000000
/-! K77w (printed by mk77w.py): the parts of the law. -/
namespace K77
open PySem PySem.Spec PyProof.Rows L2 Pi


/-! the end: all names of one letter; just five thousand, and some more -/
def bTail : Ss := match bflaw with
  | .cons _ (.cons _ (.cons _ (.cons _ (.cons _ r)))) => r
  | r => r
def everyE : E := match bTail with
  | .cons (.set _ _ e) _ => e
  | _ => .con .non
def everyD : D := match ev tflaw everyE (List.replicate 24 none) with
  | .ok (_, d) => d
  | _ => .non
section
variable (a0 a1 a2 a3 a4 a5 a6 a7 a8 a9 a10 a11 a12 a13 a14 a15 a16 a17 a18 a19 a20 a21 a22 a23 : Option (Bool × D))
theorem tail1 : exS tflaw xsC (.set 5 false everyE) [a0, a1, a2, a3, a4, a5, a6, a7, a8, a9, a10, a11, a12, a13, a14, a15, a16, a17, a18, a19, a20, a21, a22, a23] = .ok (.nx [a0, a1, a2, a3, a4, some (false, everyD), a6, a7, a8, a9, a10, a11, a12, a13, a14, a15, a16, a17, a18, a19, a20, a21, a22, a23]) := by kernel_rfl
def everyC : E := match bTail with
  | .cons _ (.cons (.ite c _ _) _) => c
  | _ => .con .non
theorem tail2 : ev tflaw everyC [a0, a1, a2, a3, a4, some (false, everyD), a6, a7, a8, a9, a10, a11, a12, a13, a14, a15, a16, a17, a18, a19, a20, a21, a22, a23] = .ok (.fz, .bl false) := by kernel_rfl
end
def wideD (a b c d : Nat) : D := match f_law_many [.int (a : Nat), .int (b : Nat), .int (c : Nat), .int (d : Nat)] with
  | .ok (_, d) => d
  | _ => .non
def listOf (r : Res (Mo × D)) : List D := match r with
  | .ok (.ow, .lst l) => l
  | _ => []
def isL (r : Res (Mo × D)) : Bool := match r with
  | .ok (.ow, .lst _) => true
  | _ => false
theorem isL_eq {r : Res (Mo × D)} (h : isL r = true) : r = .ok (.ow, .lst (listOf r)) := by
  unfold isL at h
  split at h
  · rfl
  · cases h
def isC (r : Res (Mo × D)) : Bool := match r with
  | .ok (.fz, .non) => true
  | _ => false
theorem isC_eq {r : Res (Mo × D)} (h : isC r = true) : r = .ok (.fz, .non) := by
  unfold isC at h
  split at h
  · rfl
  · cases h
def lens (R : D) : List Nat := [(listOf (f_days [R])).length, (listOf (f_accounts [R])).length, (listOf (f_amounts [R])).length, (listOf (f_words [R])).length]
def wideOk (R : D) : Bool := isC (fcheck_rules [.lst [R]]) && isL (f_days [R]) && isL (f_accounts [R]) && isL (f_amounts [R]) && isL (f_words [R])
theorem wide_let {R : D} {x y z w : Nat} (h : wideOk R = true) (hl : lens R = [x, y, z, w]) (hp : 0 < x ∧ 0 < y ∧ 0 < z ∧ 0 < w) (hm : x * y * z * w ≤ 5000) : ∃ L : List D, L.length = x * y * z * w ∧ f_law_samples [R] = .ok (.fz, .tup L) := by
  unfold wideOk at h
  simp only [Bool.and_eq_true] at h
  obtain ⟨⟨⟨⟨hc, h1⟩, h2⟩, h3⟩, h4⟩ := h
  have h1 := isL_eq h1
  have h2 := isL_eq h2
  have h3 := isL_eq h3
  have h4 := isL_eq h4
  have hc := isC_eq hc
  unfold lens at hl
  generalize listOf (f_days [R]) = P at *
  generalize listOf (f_accounts [R]) = Q at *
  generalize listOf (f_amounts [R]) = S at *
  generalize listOf (f_words [R]) = T at *
  simp only [List.cons.injEq, and_true] at hl
  obtain ⟨e1, e2, e3, e4⟩ := hl
  subst e1 e2 e3 e4
  have hsm := small4 (List.length_pos_iff.mp hp.1) (List.length_pos_iff.mp hp.2.1) (List.length_pos_iff.mp hp.2.2.1) (List.length_pos_iff.mp hp.2.2.2) hm
  have b3 : P.length * Q.length * S.length ≤ 5000 := Nat.le_trans (Nat.le_mul_of_pos_right _ hp.2.2.2) hm
  have b2 : P.length * Q.length ≤ 5000 := Nat.le_trans (Nat.le_mul_of_pos_right _ hp.2.2.1) b3
  have b1 : P.length ≤ 5000 := Nat.le_trans (Nat.le_mul_of_pos_right _ hp.2.1) b2
  have c1 : Q.length ≤ 5000 := Nat.le_trans (Nat.le_mul_of_pos_left _ hp.1) b2
  have c2 : S.length ≤ 5000 := Nat.le_trans (Nat.le_mul_of_pos_left _ (Nat.mul_pos hp.1 hp.2.1)) b3
  have c3 : T.length ≤ 5000 := Nat.le_trans (Nat.le_mul_of_pos_left _ (Nat.mul_pos (Nat.mul_pos hp.1 hp.2.1) hp.2.2.1)) hm
  have hf := fs_eq (R := R) h1 h2 h3 h4 ⟨List.length_pos_iff.mp hp.1, List.length_pos_iff.mp hp.2.1, List.length_pos_iff.mp hp.2.2.1, List.length_pos_iff.mp hp.2.2.2⟩ ⟨b1, c1, c2, c3⟩ hm
  refine ⟨(prodRows [P, Q, S, T]).map .tup, ?_, ?_⟩
  · rw [List.length_map, prod_len]; simp
  · have hs : fsamples [R] = .ok (.fz, .tup ((prodRows [P, Q, S, T]).map .tup)) := by
      unfold fsamples bfsamples
      have ht : ∀ as, callK tfsamples 0 as = callG fcheck_rules as := fun _ => rfl
      have ht1 : ∀ as, callK tfsamples 1 as = callG ffound_samples as := fun _ => rfl
      have hl1 : ∀ m : Mo, lstG [(.fz, R)] = some (lmo [R], .lst [R]) := fun m => rfl
      rw [runF_eq]
      by_cases hat : R.atom = true
      · have hlm : lmo [R] = .ow := by unfold lmo; simp [hat]
        simp [hl1 .fz, hlm, callG, hc, hf, -callK_eq, ht, ht1, tupG, elOk_fz]
      · have hlm : lmo [R] = .fz := by unfold lmo; simp [hat]
        simp [hl1 .fz, hlm, callG, hc, hf, -callK_eq, ht, ht1, tupG, elOk_fz]
    unfold f_law_samples bf_law_samples
    have ht : ∀ as, callK tf_law_samples 0 as = callG fsamples as := fun _ => rfl
    rw [runF_eq]
    simp [callG, hs, -callK_eq, ht]
def isN (r : Res (Mo × D)) : Bool := isC r
theorem w1_ok : wideOk (wideD 10 10 25 1) = true ∧ lens (wideD 10 10 25 1) = [10, 10, 25, 2] := by decide +kernel
theorem w2_ok : wideOk (wideD 5 5 25 3) = true ∧ lens (wideD 5 5 25 3) = [5, 5, 25, 8] := by decide +kernel
theorem w3_ok : isC (f_law_samples [wideD 10 11 23 1]) = true := by decide +kernel
theorem w4_ok : isC (f_law_samples [wideD 9 9 9 3]) = true := by decide +kernel
theorem w5_ok : wideOk (wideD 10 10 10 2) = true ∧ lens (wideD 10 10 10 2) = [10, 10, 10, 4] := by decide +kernel
def bWide : Ss := match bTail with
  | .cons _ (.cons _ (.cons (.for _ _ b) _)) => b
  | r => r

def bWide2 : Ss := match bWide with
  | .cons _ (.cons _ r) => r
  | r => r
theorem bWide_eq : bWide = .cons (.set 13 false (.call 16 (.cons (.ix (.var 11) (.con (.int 0))) (.cons (.ix (.var 11) (.con (.int 1))) (.cons (.ix (.var 11) (.con (.int 2))) (.cons (.ix (.var 11) (.con (.int 3))) .nil)))))) (.cons (.set 14 false (.op .mul (.op .mul (.op .mul (.ix (.var 11) (.con (.int 0))) (.ix (.var 11) (.con (.int 1)))) (.ix (.var 11) (.con (.int 2)))) (.ix (.tup (.cons (.con (.int 1)) (.cons (.con (.int 2)) (.cons (.con (.int 4)) (.cons (.con (.int 8)) .nil))))) (.ix (.var 11) (.con (.int 3)))))) bWide2) := by kernel_rfl
section
variable (a0 a1 a2 a3 a4 a5 a6 a7 a8 a9 a10 a11 a12 a13 a14 a15 a16 a17 a18 a19 a20 a21 a22 a23 : Option (Bool × D)) (W : D) (hw : W.atom = true)
include hw
theorem wide_yes {x y z v : Int} {due : Nat} (L : List D) (hL : L.length = due) (hd : due ≤ 5000) (hS : f_law_samples [W] = .ok (.fz, .tup L)) : exs tflaw xsC bWide2 [a0, a1, a2, a3, a4, a5, a6, a7, a8, a9, a10, some (false, .tup [.int x, .int y, .int z, .int v]), some (false, .bl true), some (false, W), some (false, .int (due : Nat)), a15, a16, a17, a18, a19, a20, a21, a22, a23] = .ok (.nx [a0, a1, a2, a3, a4, a5, a6, some (false, .tup L), a8, a9, a10, some (false, .tup [.int x, .int y, .int z, .int v]), some (false, .bl true), some (false, W), some (false, .int (due : Nat)), a15, a16, a17, a18, a19, a20, a21, a22, a23]) := by
  have ht : ∀ as, callK tflaw 4 as = callG f_law_samples as := fun _ => rfl
  unfold bWide2 bWide bTail bflaw
  simp only
  rw [exs_seq (ρ' := [a0, a1, a2, a3, a4, a5, a6, some (false, .tup L), a8, a9, a10, some (false, .tup [.int x, .int y, .int z, .int v]), some (false, .bl true), some (false, W), some (false, .int (due : Nat)), a15, a16, a17, a18, a19, a20, a21, a22, a23]) (by simp [hw, callG, hS, -callK_eq, ht])]
  have h5 : ¬ (5000 : Int) < (due : Nat) := by omega
  simp [hL, h5]
theorem wide_no {x y z v : Int} {due : Nat} (hd : 5000 < due) (hS : f_law_samples [W] = .ok (.fz, .non)) : exs tflaw xsC bWide2 [a0, a1, a2, a3, a4, a5, a6, a7, a8, a9, a10, some (false, .tup [.int x, .int y, .int z, .int v]), some (false, .bl false), some (false, W), some (false, .int (due : Nat)), a15, a16, a17, a18, a19, a20, a21, a22, a23] = .ok (.nx [a0, a1, a2, a3, a4, a5, a6, some (false, .non), a8, a9, a10, some (false, .tup [.int x, .int y, .int z, .int v]), some (false, .bl false), some (false, W), some (false, .int (due : Nat)), a15, a16, a17, a18, a19, a20, a21, a22, a23]) := by
  have ht : ∀ as, callK tflaw 4 as = callG f_law_samples as := fun _ => rfl
  unfold bWide2 bWide bTail bflaw
  simp only
  rw [exs_seq (ρ' := [a0, a1, a2, a3, a4, a5, a6, some (false, .non), a8, a9, a10, some (false, .tup [.int x, .int y, .int z, .int v]), some (false, .bl false), some (false, W), some (false, .int (due : Nat)), a15, a16, a17, a18, a19, a20, a21, a22, a23]) (by simp [hw, callG, hS, -callK_eq, ht])]
  have h5 : (5000 : Int) < (due : Nat) := by omega
  simp [h5]
end
section
variable (a0 a1 a2 a3 a4 a5 a6 a7 a8 a9 a10 a11 a12 a13 a14 a15 a16 a17 a18 a19 a20 a21 a22 a23 : Option (Bool × D))
theorem wideW0 : (wideD 10 10 25 1).atom = true := by kernel_rfl
theorem wideA0 : exS tflaw xsC (.set 13 false (.call 16 (.cons (.ix (.var 11) (.con (.int 0))) (.cons (.ix (.var 11) (.con (.int 1))) (.cons (.ix (.var 11) (.con (.int 2))) (.cons (.ix (.var 11) (.con (.int 3))) .nil)))))) [a0, a1, a2, a3, a4, a5, a6, a7, a8, a9, a10, some (false, .tup [.int 10, .int 10, .int 25, .int 1]), some (false, .bl true), a13, a14, a15, a16, a17, a18, a19, a20, a21, a22, a23] = .ok (.nx [a0, a1, a2, a3, a4, a5, a6, a7, a8, a9, a10, some (false, .tup [.int 10, .int 10, .int 25, .int 1]), some (false, .bl true), some (false, wideD 10 10 25 1), a14, a15, a16, a17, a18, a19, a20, a21, a22, a23]) := by kernel_rfl
theorem wideB0 (WW : D) : exS tflaw xsC (.set 14 false (.op .mul (.op .mul (.op .mul (.ix (.var 11) (.con (.int 0))) (.ix (.var 11) (.con (.int 1)))) (.ix (.var 11) (.con (.int 2)))) (.ix (.tup (.cons (.con (.int 1)) (.cons (.con (.int 2)) (.cons (.con (.int 4)) (.cons (.con (.int 8)) .nil))))) (.ix (.var 11) (.con (.int 3)))))) [a0, a1, a2, a3, a4, a5, a6, a7, a8, a9, a10, some (false, .tup [.int 10, .int 10, .int 25, .int 1]), some (false, .bl true), some (false, WW), a14, a15, a16, a17, a18, a19, a20, a21, a22, a23] = .ok (.nx [a0, a1, a2, a3, a4, a5, a6, a7, a8, a9, a10, some (false, .tup [.int 10, .int 10, .int 25, .int 1]), some (false, .bl true), some (false, WW), some (false, .int ((5000 : Nat) : Int)), a15, a16, a17, a18, a19, a20, a21, a22, a23]) := by kernel_rfl
theorem wide0 : ∃ t, exs tflaw xsC bWide [a0, a1, a2, a3, a4, a5, a6, a7, a8, a9, a10, some (false, .tup [.int 10, .int 10, .int 25, .int 1]), some (false, .bl true), a13, a14, a15, a16, a17, a18, a19, a20, a21, a22, a23] = .ok (.nx [a0, a1, a2, a3, a4, a5, a6, some (false, t), a8, a9, a10, some (false, .tup [.int 10, .int 10, .int 25, .int 1]), some (false, .bl true), some (false, wideD 10 10 25 1), some (false, .int ((5000 : Nat) : Int)), a15, a16, a17, a18, a19, a20, a21, a22, a23]) := by
  obtain ⟨L, hL, hS⟩ := wide_let w1_ok.1 w1_ok.2 (by decide) (by decide)
  refine ⟨.tup L, ?_⟩
  rw [bWide_eq, exs_seq (wideA0 a0 a1 a2 a3 a4 a5 a6 a7 a8 a9 a10 a13 a14 a15 a16 a17 a18 a19 a20 a21 a22 a23)]
  have hw := wideW0
  generalize wideD 10 10 25 1 = W at *
  rw [exs_seq (wideB0 a0 a1 a2 a3 a4 a5 a6 a7 a8 a9 a10 a14 a15 a16 a17 a18 a19 a20 a21 a22 a23 W)]
  exact wide_yes a0 a1 a2 a3 a4 a5 a6 a7 a8 a9 a10 a15 a16 a17 a18 a19 a20 a21 a22 a23 W hw L hL (by decide) hS
theorem wideW1 : (wideD 5 5 25 3).atom = true := by kernel_rfl
theorem wideA1 : exS tflaw xsC (.set 13 false (.call 16 (.cons (.ix (.var 11) (.con (.int 0))) (.cons (.ix (.var 11) (.con (.int 1))) (.cons (.ix (.var 11) (.con (.int 2))) (.cons (.ix (.var 11) (.con (.int 3))) .nil)))))) [a0, a1, a2, a3, a4, a5, a6, a7, a8, a9, a10, some (false, .tup [.int 5, .int 5, .int 25, .int 3]), some (false, .bl true), a13, a14, a15, a16, a17, a18, a19, a20, a21, a22, a23] = .ok (.nx [a0, a1, a2, a3, a4, a5, a6, a7, a8, a9, a10, some (false, .tup [.int 5, .int 5, .int 25, .int 3]), some (false, .bl true), some (false, wideD 5 5 25 3), a14, a15, a16, a17, a18, a19, a20, a21, a22, a23]) := by kernel_rfl
theorem wideB1 (WW : D) : exS tflaw xsC (.set 14 false (.op .mul (.op .mul (.op .mul (.ix (.var 11) (.con (.int 0))) (.ix (.var 11) (.con (.int 1)))) (.ix (.var 11) (.con (.int 2)))) (.ix (.tup (.cons (.con (.int 1)) (.cons (.con (.int 2)) (.cons (.con (.int 4)) (.cons (.con (.int 8)) .nil))))) (.ix (.var 11) (.con (.int 3)))))) [a0, a1, a2, a3, a4, a5, a6, a7, a8, a9, a10, some (false, .tup [.int 5, .int 5, .int 25, .int 3]), some (false, .bl true), some (false, WW), a14, a15, a16, a17, a18, a19, a20, a21, a22, a23] = .ok (.nx [a0, a1, a2, a3, a4, a5, a6, a7, a8, a9, a10, some (false, .tup [.int 5, .int 5, .int 25, .int 3]), some (false, .bl true), some (false, WW), some (false, .int ((5000 : Nat) : Int)), a15, a16, a17, a18, a19, a20, a21, a22, a23]) := by kernel_rfl
theorem wide1 : ∃ t, exs tflaw xsC bWide [a0, a1, a2, a3, a4, a5, a6, a7, a8, a9, a10, some (false, .tup [.int 5, .int 5, .int 25, .int 3]), some (false, .bl true), a13, a14, a15, a16, a17, a18, a19, a20, a21, a22, a23] = .ok (.nx [a0, a1, a2, a3, a4, a5, a6, some (false, t), a8, a9, a10, some (false, .tup [.int 5, .int 5, .int 25, .int 3]), some (false, .bl true), some (false, wideD 5 5 25 3), some (false, .int ((5000 : Nat) : Int)), a15, a16, a17, a18, a19, a20, a21, a22, a23]) := by
  obtain ⟨L, hL, hS⟩ := wide_let w2_ok.1 w2_ok.2 (by decide) (by decide)
  refine ⟨.tup L, ?_⟩
  rw [bWide_eq, exs_seq (wideA1 a0 a1 a2 a3 a4 a5 a6 a7 a8 a9 a10 a13 a14 a15 a16 a17 a18 a19 a20 a21 a22 a23)]
  have hw := wideW1
  generalize wideD 5 5 25 3 = W at *
  rw [exs_seq (wideB1 a0 a1 a2 a3 a4 a5 a6 a7 a8 a9 a10 a14 a15 a16 a17 a18 a19 a20 a21 a22 a23 W)]
  exact wide_yes a0 a1 a2 a3 a4 a5 a6 a7 a8 a9 a10 a15 a16 a17 a18 a19 a20 a21 a22 a23 W hw L hL (by decide) hS
theorem wideW2 : (wideD 10 11 23 1).atom = true := by kernel_rfl
theorem wideA2 : exS tflaw xsC (.set 13 false (.call 16 (.cons (.ix (.var 11) (.con (.int 0))) (.cons (.ix (.var 11) (.con (.int 1))) (.cons (.ix (.var 11) (.con (.int 2))) (.cons (.ix (.var 11) (.con (.int 3))) .nil)))))) [a0, a1, a2, a3, a4, a5, a6, a7, a8, a9, a10, some (false, .tup [.int 10, .int 11, .int 23, .int 1]), some (false, .bl false), a13, a14, a15, a16, a17, a18, a19, a20, a21, a22, a23] = .ok (.nx [a0, a1, a2, a3, a4, a5, a6, a7, a8, a9, a10, some (false, .tup [.int 10, .int 11, .int 23, .int 1]), some (false, .bl false), some (false, wideD 10 11 23 1), a14, a15, a16, a17, a18, a19, a20, a21, a22, a23]) := by kernel_rfl
theorem wideB2 (WW : D) : exS tflaw xsC (.set 14 false (.op .mul (.op .mul (.op .mul (.ix (.var 11) (.con (.int 0))) (.ix (.var 11) (.con (.int 1)))) (.ix (.var 11) (.con (.int 2)))) (.ix (.tup (.cons (.con (.int 1)) (.cons (.con (.int 2)) (.cons (.con (.int 4)) (.cons (.con (.int 8)) .nil))))) (.ix (.var 11) (.con (.int 3)))))) [a0, a1, a2, a3, a4, a5, a6, a7, a8, a9, a10, some (false, .tup [.int 10, .int 11, .int 23, .int 1]), some (false, .bl false), some (false, WW), a14, a15, a16, a17, a18, a19, a20, a21, a22, a23] = .ok (.nx [a0, a1, a2, a3, a4, a5, a6, a7, a8, a9, a10, some (false, .tup [.int 10, .int 11, .int 23, .int 1]), some (false, .bl false), some (false, WW), some (false, .int ((5060 : Nat) : Int)), a15, a16, a17, a18, a19, a20, a21, a22, a23]) := by kernel_rfl
theorem wide2 : ∃ t, exs tflaw xsC bWide [a0, a1, a2, a3, a4, a5, a6, a7, a8, a9, a10, some (false, .tup [.int 10, .int 11, .int 23, .int 1]), some (false, .bl false), a13, a14, a15, a16, a17, a18, a19, a20, a21, a22, a23] = .ok (.nx [a0, a1, a2, a3, a4, a5, a6, some (false, t), a8, a9, a10, some (false, .tup [.int 10, .int 11, .int 23, .int 1]), some (false, .bl false), some (false, wideD 10 11 23 1), some (false, .int ((5060 : Nat) : Int)), a15, a16, a17, a18, a19, a20, a21, a22, a23]) := by
  have hS := isC_eq w3_ok
  refine ⟨.non, ?_⟩
  rw [bWide_eq, exs_seq (wideA2 a0 a1 a2 a3 a4 a5 a6 a7 a8 a9 a10 a13 a14 a15 a16 a17 a18 a19 a20 a21 a22 a23)]
  have hw := wideW2
  generalize wideD 10 11 23 1 = W at *
  rw [exs_seq (wideB2 a0 a1 a2 a3 a4 a5 a6 a7 a8 a9 a10 a14 a15 a16 a17 a18 a19 a20 a21 a22 a23 W)]
  exact wide_no a0 a1 a2 a3 a4 a5 a6 a7 a8 a9 a10 a15 a16 a17 a18 a19 a20 a21 a22 a23 W hw (by decide) hS
theorem wideW3 : (wideD 9 9 9 3).atom = true := by kernel_rfl
theorem wideA3 : exS tflaw xsC (.set 13 false (.call 16 (.cons (.ix (.var 11) (.con (.int 0))) (.cons (.ix (.var 11) (.con (.int 1))) (.cons (.ix (.var 11) (.con (.int 2))) (.cons (.ix (.var 11) (.con (.int 3))) .nil)))))) [a0, a1, a2, a3, a4, a5, a6, a7, a8, a9, a10, some (false, .tup [.int 9, .int 9, .int 9, .int 3]), some (false, .bl false), a13, a14, a15, a16, a17, a18, a19, a20, a21, a22, a23] = .ok (.nx [a0, a1, a2, a3, a4, a5, a6, a7, a8, a9, a10, some (false, .tup [.int 9, .int 9, .int 9, .int 3]), some (false, .bl false), some (false, wideD 9 9 9 3), a14, a15, a16, a17, a18, a19, a20, a21, a22, a23]) := by kernel_rfl
theorem wideB3 (WW : D) : exS tflaw xsC (.set 14 false (.op .mul (.op .mul (.op .mul (.ix (.var 11) (.con (.int 0))) (.ix (.var 11) (.con (.int 1)))) (.ix (.var 11) (.con (.int 2)))) (.ix (.tup (.cons (.con (.int 1)) (.cons (.con (.int 2)) (.cons (.con (.int 4)) (.cons (.con (.int 8)) .nil))))) (.ix (.var 11) (.con (.int 3)))))) [a0, a1, a2, a3, a4, a5, a6, a7, a8, a9, a10, some (false, .tup [.int 9, .int 9, .int 9, .int 3]), some (false, .bl false), some (false, WW), a14, a15, a16, a17, a18, a19, a20, a21, a22, a23] = .ok (.nx [a0, a1, a2, a3, a4, a5, a6, a7, a8, a9, a10, some (false, .tup [.int 9, .int 9, .int 9, .int 3]), some (false, .bl false), some (false, WW), some (false, .int ((5832 : Nat) : Int)), a15, a16, a17, a18, a19, a20, a21, a22, a23]) := by kernel_rfl
theorem wide3 : ∃ t, exs tflaw xsC bWide [a0, a1, a2, a3, a4, a5, a6, a7, a8, a9, a10, some (false, .tup [.int 9, .int 9, .int 9, .int 3]), some (false, .bl false), a13, a14, a15, a16, a17, a18, a19, a20, a21, a22, a23] = .ok (.nx [a0, a1, a2, a3, a4, a5, a6, some (false, t), a8, a9, a10, some (false, .tup [.int 9, .int 9, .int 9, .int 3]), some (false, .bl false), some (false, wideD 9 9 9 3), some (false, .int ((5832 : Nat) : Int)), a15, a16, a17, a18, a19, a20, a21, a22, a23]) := by
  have hS := isC_eq w4_ok
  refine ⟨.non, ?_⟩
  rw [bWide_eq, exs_seq (wideA3 a0 a1 a2 a3 a4 a5 a6 a7 a8 a9 a10 a13 a14 a15 a16 a17 a18 a19 a20 a21 a22 a23)]
  have hw := wideW3
  generalize wideD 9 9 9 3 = W at *
  rw [exs_seq (wideB3 a0 a1 a2 a3 a4 a5 a6 a7 a8 a9 a10 a14 a15 a16 a17 a18 a19 a20 a21 a22 a23 W)]
  exact wide_no a0 a1 a2 a3 a4 a5 a6 a7 a8 a9 a10 a15 a16 a17 a18 a19 a20 a21 a22 a23 W hw (by decide) hS
theorem wideW4 : (wideD 10 10 10 2).atom = true := by kernel_rfl
theorem wideA4 : exS tflaw xsC (.set 13 false (.call 16 (.cons (.ix (.var 11) (.con (.int 0))) (.cons (.ix (.var 11) (.con (.int 1))) (.cons (.ix (.var 11) (.con (.int 2))) (.cons (.ix (.var 11) (.con (.int 3))) .nil)))))) [a0, a1, a2, a3, a4, a5, a6, a7, a8, a9, a10, some (false, .tup [.int 10, .int 10, .int 10, .int 2]), some (false, .bl true), a13, a14, a15, a16, a17, a18, a19, a20, a21, a22, a23] = .ok (.nx [a0, a1, a2, a3, a4, a5, a6, a7, a8, a9, a10, some (false, .tup [.int 10, .int 10, .int 10, .int 2]), some (false, .bl true), some (false, wideD 10 10 10 2), a14, a15, a16, a17, a18, a19, a20, a21, a22, a23]) := by kernel_rfl
theorem wideB4 (WW : D) : exS tflaw xsC (.set 14 false (.op .mul (.op .mul (.op .mul (.ix (.var 11) (.con (.int 0))) (.ix (.var 11) (.con (.int 1)))) (.ix (.var 11) (.con (.int 2)))) (.ix (.tup (.cons (.con (.int 1)) (.cons (.con (.int 2)) (.cons (.con (.int 4)) (.cons (.con (.int 8)) .nil))))) (.ix (.var 11) (.con (.int 3)))))) [a0, a1, a2, a3, a4, a5, a6, a7, a8, a9, a10, some (false, .tup [.int 10, .int 10, .int 10, .int 2]), some (false, .bl true), some (false, WW), a14, a15, a16, a17, a18, a19, a20, a21, a22, a23] = .ok (.nx [a0, a1, a2, a3, a4, a5, a6, a7, a8, a9, a10, some (false, .tup [.int 10, .int 10, .int 10, .int 2]), some (false, .bl true), some (false, WW), some (false, .int ((4000 : Nat) : Int)), a15, a16, a17, a18, a19, a20, a21, a22, a23]) := by kernel_rfl
theorem wide4 : ∃ t, exs tflaw xsC bWide [a0, a1, a2, a3, a4, a5, a6, a7, a8, a9, a10, some (false, .tup [.int 10, .int 10, .int 10, .int 2]), some (false, .bl true), a13, a14, a15, a16, a17, a18, a19, a20, a21, a22, a23] = .ok (.nx [a0, a1, a2, a3, a4, a5, a6, some (false, t), a8, a9, a10, some (false, .tup [.int 10, .int 10, .int 10, .int 2]), some (false, .bl true), some (false, wideD 10 10 10 2), some (false, .int ((4000 : Nat) : Int)), a15, a16, a17, a18, a19, a20, a21, a22, a23]) := by
  obtain ⟨L, hL, hS⟩ := wide_let w5_ok.1 w5_ok.2 (by decide) (by decide)
  refine ⟨.tup L, ?_⟩
  rw [bWide_eq, exs_seq (wideA4 a0 a1 a2 a3 a4 a5 a6 a7 a8 a9 a10 a13 a14 a15 a16 a17 a18 a19 a20 a21 a22 a23)]
  have hw := wideW4
  generalize wideD 10 10 10 2 = W at *
  rw [exs_seq (wideB4 a0 a1 a2 a3 a4 a5 a6 a7 a8 a9 a10 a14 a15 a16 a17 a18 a19 a20 a21 a22 a23 W)]
  exact wide_yes a0 a1 a2 a3 a4 a5 a6 a7 a8 a9 a10 a15 a16 a17 a18 a19 a20 a21 a22 a23 W hw L hL (by decide) hS
end
def wideIt : Pi.It := match bTail with
  | .cons _ (.cons _ (.cons (.for _ i _) _)) => i
  | _ => .rng .nil
theorem bTail_eq : bTail = .cons (.set 5 false everyE) (.cons (.ite everyC (.cons (.ret (.con (.bl false))) .nil) .nil) (.cons (.for (.tp [(.nm 11), (.nm 12)]) wideIt bWide) (.cons (.ret (.con (.bl true))) .nil))) := by kernel_rfl
theorem wideIt_eq (a0 a1 a2 a3 a4 a5 a6 a7 a8 a9 a10 a11 a12 a13 a14 a15 a16 a17 a18 a19 a20 a21 a22 a23 : Option (Bool × D)) : evi tflaw wideIt [a0, a1, a2, a3, a4, a5, a6, a7, a8, a9, a10, a11, a12, a13, a14, a15, a16, a17, a18, a19, a20, a21, a22, a23] = .ok [.tup [.tup [.int 10, .int 10, .int 25, .int 1], .bl true], .tup [.tup [.int 5, .int 5, .int 25, .int 3], .bl true], .tup [.tup [.int 10, .int 11, .int 23, .int 1], .bl false], .tup [.tup [.int 9, .int 9, .int 9, .int 3], .bl false], .tup [.tup [.int 10, .int 10, .int 10, .int 2], .bl true]] := by kernel_rfl
theorem tail_eq (a0 a1 a2 a3 a4 a5 a6 a7 a8 a9 a10 a11 a12 a13 a14 a15 a16 a17 a18 a19 a20 a21 a22 a23 : Option (Bool × D)) : exs tflaw xsC bTail [a0, a1, a2, a3, a4, a5, a6, a7, a8, a9, a10, a11, a12, a13, a14, a15, a16, a17, a18, a19, a20, a21, a22, a23] = .ok (.rt .fz (.bl true)) := by
  rw [bTail_eq, exs_seq (tail1 a0 a1 a2 a3 a4 a5 a6 a7 a8 a9 a10 a11 a12 a13 a14 a15 a16 a17 a18 a19 a20 a21 a22 a23)]
  rw [exs_seq (ρ' := [a0, a1, a2, a3, a4, some (false, everyD), a6, a7, a8, a9, a10, a11, a12, a13, a14, a15, a16, a17, a18, a19, a20, a21, a22, a23]) (by rw [exS_ite, tail2]; simp)]
  generalize (some (false, everyD) : Option (Bool × D)) = a5
  rw [exs_cons_s, exS_for, wideIt_eq, rb_ok]
  obtain ⟨t0, e0⟩ := wide0 a0 a1 a2 a3 a4 a5 a6 a7 a8 a9 a10 a13 a14 a15 a16 a17 a18 a19 a20 a21 a22 a23
  rw [forK_cons _ (by simp [bindT, bindTs, setR]) e0]
  obtain ⟨t1, e1⟩ := wide1 a0 a1 a2 a3 a4 a5 a6 (some (false, t0)) a8 a9 a10 (some (false, wideD 10 10 25 1)) (some (false, .int ((5000 : Nat) : Int))) a15 a16 a17 a18 a19 a20 a21 a22 a23
  rw [forK_cons _ (by simp [bindT, bindTs, setR]) e1]
  obtain ⟨t2, e2⟩ := wide2 a0 a1 a2 a3 a4 a5 a6 (some (false, t1)) a8 a9 a10 (some (false, wideD 5 5 25 3)) (some (false, .int ((5000 : Nat) : Int))) a15 a16 a17 a18 a19 a20 a21 a22 a23
  rw [forK_cons _ (by simp [bindT, bindTs, setR]) e2]
  obtain ⟨t3, e3⟩ := wide3 a0 a1 a2 a3 a4 a5 a6 (some (false, t2)) a8 a9 a10 (some (false, wideD 10 11 23 1)) (some (false, .int ((5060 : Nat) : Int))) a15 a16 a17 a18 a19 a20 a21 a22 a23
  rw [forK_cons _ (by simp [bindT, bindTs, setR]) e3]
  obtain ⟨t4, e4⟩ := wide4 a0 a1 a2 a3 a4 a5 a6 (some (false, t3)) a8 a9 a10 (some (false, wideD 9 9 9 3)) (some (false, .int ((5832 : Nat) : Int))) a15 a16 a17 a18 a19 a20 a21 a22 a23
  rw [forK_cons _ (by simp [bindT, bindTs, setR]) e4]
  rw [forK_nil]
  simp
end K77

set_option Elab.async false
set_option linter.all false
set_option maxRecDepth 100000
set_option maxHeartbeats 4000000
/-! K77x: lists of rule numbers; plain data. -/
namespace K77
open PySem PySem.Spec PyProof.Rows L2 Pi
def pyO : Option Nat → PyData
  | none => .none
  | some k => .int (k : Nat)
theorem toPy_oi (a : Option Nat) : toPy (oiE a) = some (pyO a) := by cases a <;> simp only [oiE, toPy, pyO]
theorem toPys_oi : ∀ l : List (Option Nat), toPys (l.map oiE) = some (l.map pyO)
  | [] => by simp only [List.map_nil, toPys]
  | a :: r => by simp only [List.map_cons, toPys, toPy_oi, toPys_oi r, Option.bind_some, Option.map_some]
theorem pl_oi {n : Nat} (a : Option Nat) : (oiE a).pl n = true := by cases a <;> cases n <;> (unfold oiE D.pl; rfl)
theorem toPyS_oi (a : Option Nat) : toPyS (oiE a) = some (pyO a) := by
  obtain ⟨p, e, e2, _⟩ := pl_pyS (n := 64) (pl_oi a) (by decide)
  rw [toPy_oi] at e2
  cases e2
  exact e
theorem toPyS_lois (l : List (Option Nat)) : toPyS (.lst (l.map oiE)) = some (.list (l.map pyO)) := by
  obtain ⟨p, e, e2, _⟩ := pl_pyS (n := 64) (d := .lst (l.map oiE)) (by
    unfold D.pl
    exact pls_of fun d hd => by
      obtain ⟨a, _, e⟩ := List.mem_map.mp hd
      rw [← e]; exact pl_oi a) (by decide)
  simp only [toPy, toPys_oi, Option.map_some, Option.some.injEq] at e2
  rw [e, e2]
theorem eqv_oi (a b : Option Nat) : PyData.eqv (pyO a) (pyO b) = decide (a = b) := by
  cases a with
  | none => cases b <;> simp [pyO, PyData.eqv]
  | some i =>
    cases b with
    | none => simp [pyO, PyData.eqv]
    | some j =>
      simp only [pyO, PyData.eqv]
      by_cases h : i = j
      · simp [h]
      · have : ¬ ((i : Int) = (j : Int)) := by omega
        simp [h, this]
theorem any_oi (k : Option Nat) : ∀ l : List (Option Nat), ((l.map pyO).any fun z => PyData.eqv z (pyO k)) = decide (k ∈ l)
  | [] => by simp
  | a :: r => by
    rw [List.map_cons, List.any_cons, any_oi k r, eqv_oi]
    simp only [List.mem_cons, eq_comm (a := k)]
    by_cases h : a = k <;> simp [h]
theorem in_oi {m n : Mo} (k : Nat) (l : List (Option Nat)) (g : Bool) : blG g inD2 (m, .int (k : Nat)) (n, .lst (l.map oiE)) = some (.fz, .bl (if g then !decide (some k ∈ l) else decide (some k ∈ l))) := by
  have e : inD2 (.int (k : Nat)) (.lst (l.map oiE)) = some (decide (some k ∈ l)) := by
    show inD (.int (k : Nat)) (.lst (l.map oiE)) = _
    have e1 : inD (.int (k : Nat)) (.lst (l.map oiE)) = (match toPyS (oiE (some k)), toPyS (.lst (l.map oiE)) with
      | some p, some (.list qs) => some (qs.any fun z => PyData.eqv z p)
      | _, _ => none) := by
      show inD (oiE (some k)) (.lst (l.map oiE)) = _
      unfold oiE inD
      first | done | rfl
    rw [e1, toPyS_oi, toPyS_lois]
    simp only
    rw [any_oi]
  unfold blG
  rw [e]
  rfl
theorem idx_oi (k : Option Nat) : ∀ l : List (Option Nat), idxL (l.map pyO) (pyO k) = l.findIdx? fun x => decide (x = k)
  | [] => rfl
  | a :: r => by
    rw [List.map_cons, List.findIdx?_cons]
    unfold idxL
    rw [eqv_oi, idx_oi k r]
    try (by_cases h : a = k <;> simp [h])
theorem index_oi {m n : Mo} (k : Nat) (l : List (Option Nat)) : indexG (m, .lst (l.map oiE)) (n, .int (k : Nat)) = (l.findIdx? fun x => decide (x = some k)).map fun j => (.fz, .int (j : Nat)) := by
  have h1 := toPyS_lois l
  have h2 : toPyS (.int (k : Nat)) = some (pyO (some k)) := toPyS_oi (some k)
  unfold indexG
  simp only
  rw [h1, h2]
  simp only
  rw [idx_oi]
theorem eq_oi {m n : Mo} (a b : Option Nat) (g : Bool) : blG g eqD (m, oiE a) (n, oiE b) = some (.fz, .bl (if g then !decide (a = b) else decide (a = b))) := by
  have e : eqD (oiE a) (oiE b) = some (decide (a = b)) := by
    cases a with
    | none =>
      have : eqD (oiE none) (oiE b) = (match toPyS (oiE none), toPyS (oiE b) with
        | some p, some q => some (PyData.eqv p q)
        | _, _ => none) := by cases b <;> (unfold oiE eqD; rfl)
      rw [this, toPyS_oi, toPyS_oi]
      simp only
      rw [eqv_oi]
    | some i =>
      cases b with
      | none =>
        have : eqD (oiE (some i)) (oiE none) = (match toPyS (oiE (some i)), toPyS (oiE none) with
          | some p, some q => some (PyData.eqv p q)
          | _, _ => none) := by unfold oiE eqD; rfl
        rw [this, toPyS_oi, toPyS_oi]
        simp only
        rw [eqv_oi]
      | some j =>
        show some (decide ((i : Int) = (j : Int))) = _
        by_cases h : i = j
        · simp [h]
        · have : ¬ ((i : Int) = (j : Int)) := by omega
          simp [h, this]
  unfold blG
  rw [e]
  rfl
/-! plain -/
theorem pl_enc {r : Row} (h : DomR r) (n : Nat) : r.enc.pl (n + 1) = true := by
  have h1 := h.ok
  unfold Row.enc D.pl
  have ha := pl_str (n := n) h1.at'
  have hw := pl_str (n := n) h1.t
  have hi : ∀ i : Int, (D.int i).pl n = true := fun i => by cases n <;> (unfold D.pl; rfl)
  unfold D.pls
  rw [hi]
  unfold D.pls
  rw [ha]
  unfold D.pls
  rw [hi]
  unfold D.pls
  rw [hw]
  unfold D.pls
  rfl
theorem pl_orE {rs : List Rule} (h : RsU rs) (k n : Nat) : (orE (firstS rs k)).pl (n + 1) = true := by
  cases hf : firstS rs k with
  | none => unfold orE D.pl; rfl
  | some r => exact pl_enc (samp_dom h r (by unfold firstS at hf; exact List.mem_of_find?_eq_some hf)) n
theorem ne_refl {m n : Mo} {d : D} (h : d.pl 64 = true) : blG true eqD (m, d) (n, d) = some (.fz, .bl false) := by
  unfold blG
  simp only
  rw [eqD_refl h]
  rfl
/-! a sample's number -/
theorem findIdx_get {α : Type} {p : α → Bool} : ∀ {l : List α} {j : Nat}, l.findIdx? p = some j → l[j]? = l.find? p ∧ j < l.length
  | [], j, h => by simp at h
  | a :: r, j, h => by
    rw [List.findIdx?_cons] at h
    rw [List.find?_cons]
    cases hp : p a with
    | true => rw [hp] at h; simp at h; subst h; simp
    | false =>
      rw [hp] at h
      simp only [Bool.false_eq_true, if_false, Option.map_eq_some_iff] at h
      obtain ⟨i, h1, h2⟩ := h
      subst h2
      have := findIdx_get h1
      refine ⟨?_, by rw [List.length_cons]; omega⟩
      rw [List.getElem?_cons_succ]
      exact this.1
theorem findIdx_map {α β : Type} (f : α → β) (p : β → Bool) : ∀ l : List α, (l.map f).findIdx? p = l.findIdx? fun x => p (f x)
  | [] => rfl
  | a :: r => by rw [List.map_cons, List.findIdx?_cons, List.findIdx?_cons, findIdx_map f p r]
theorem findIdx_none {α : Type} {p : α → Bool} : ∀ {l : List α}, l.findIdx? p = none → l.find? p = none
  | [], _ => rfl
  | a :: r, h => by
    rw [List.findIdx?_cons] at h
    rw [List.find?_cons]
    cases hp : p a with
    | true => rw [hp] at h; simp at h
    | false =>
      rw [hp] at h
      simp only [Bool.false_eq_true, if_false, Option.map_eq_none_iff] at h
      exact findIdx_none h
/-! rules that can go, as the law tells it -/
def dueT (rs : List Rule) (k : Nat) (r : Row) : Bool := if firstR rs r = some k then decide (target (rs.eraseIdx k) r = target rs r) else true
def dueB (rs : List Rule) (k : Nat) : Bool := (sampOf rs).all (dueT rs k)
theorem due_idle (rs : List Rule) (k : Nat) : dueB rs k = idleB rs k := by
  unfold dueB idleB
  congr 1
  funext r
  unfold dueT
  by_cases h : firstR rs r = some k
  · rw [if_pos h, eq_comm]
    exact decide_eq_decide.mpr eq_comm
  · rw [if_neg h, target_erase h]; simp
theorem range_all {α : Type} (l : List α) (f : α → Bool) : ((List.range l.length).all fun n => (l[n]?).all f) = l.all f := by
  rw [Bool.eq_iff_iff, List.all_eq_true, List.all_eq_true]
  constructor
  · intro h x hx
    obtain ⟨i, hi, e⟩ := List.getElem_of_mem hx
    have := h i (List.mem_range.mpr hi)
    rw [List.getElem?_eq_getElem hi, e] at this
    simpa using this
  · intro h n hn
    have hn := List.mem_range.mp hn
    rw [List.getElem?_eq_getElem hn]
    simpa using h _ (List.getElem_mem hn)
end K77

set_option Elab.async false
set_option linter.all false
set_option maxRecDepth 100000
set_option maxHeartbeats 4000000
/-! K77y (printed by mk77y.py): the law. -/
namespace K77
open PySem PySem.Spec PyProof.Rows L2 Pi
theorem callG_fz {F : List D → Res (Mo × D)} {as : List (Mo × D)} {d : D} (h : F (as.map (·.2)) = .ok (.fz, d)) (ha : (as.all fun a => decide (a.1 ≠ .bo)) = true) : callG F as = .ok (.fz, d) := by
  unfold callG
  rw [h]
  simp only
  rw [if_neg]
  rintro (q | ⟨q, _⟩)
  · cases q
  · rw [List.any_eq_true] at q
    obtain ⟨x, hx, e⟩ := q
    rw [List.all_eq_true] at ha
    have := ha x hx
    simp at this e
    exact this e
theorem callK_of {T : Tab} {f : Nat} {as : List (Mo × D)} {p : Str × Nat × (List D → Res (Mo × D))} {d : D} (hf : T.fn[f]? = some p) (h : p.2.2 (as.map (·.2)) = .ok (.fz, d)) (ha : (as.all fun a => decide (a.1 ≠ .bo)) = true) : callK T f as = .ok (.fz, d) := by
  rw [callK_eq, hf]
  exact callG_fz h ha
def bMain : Ss := match bflaw with
  | .cons _ (.cons _ (.cons _ (.cons _ (.cons (.ite _ _ b) _)))) => b
  | r => r
def bDueAll : Ss := match bMain with
  | .cons _ (.cons _ (.cons _ (.cons _ (.cons _ (.cons _ (.cons (.ite _ b _) _)))))) => b
  | r => r
def bDueK : Ss := match bDueAll with
  | .cons _ (.cons (.for _ _ b) _) => b
  | r => r
def bDueN : Ss := match bDueK with
  | .cons _ (.cons _ (.cons (.for _ _ b) _)) => b
  | r => r
def bSix : Ss := match bMain with
  | .cons _ (.cons _ (.cons _ (.cons _ (.cons _ (.cons _ (.cons _ (.cons (.for _ _ b) _))))))) => b
  | r => r
def rowsD (rs : List Rule) : List D := (sampOf rs).map Row.enc
def sortsD (rs : List Rule) : List D := ((sampOf rs).map (firstR rs)).map oiE
def firstsD (rs : List Rule) : List D := (List.range rs.length).map fun k => orE (firstS rs k)

section
variable (S0 DR PT : D) (MN : Int) {rs : List Rule} (h : RsU rs) (n8 : rs.length ≤ 8)
include h n8
/-- one sample's turn -/
theorem dueN_eq (hS : S0.atom = true) (v5 v10 v11 v12 v13 v14 v15 v16 v17 v18 v19 v20 v21 v22 v23 : Option (Bool × D)) {k : Nat} (hk : k < rs.length) {n : Nat} (hn : n < (sampOf rs).length) (b : Bool) : ∃ o21, exs tflaw xsC bDueN [some (false, S0), some (false, DR), some (false, rsE rs), some (false, PT), some (false, .int MN), v5, some (false, .lst (rowsD rs)), some (false, .tup (rowsD rs)), some (false, .lst (sortsD rs)), some (false, .tup (firstsD rs)), some (false, .int (k : Nat)), v11, v12, v13, v14, v15, v16, some (false, rsE (rs.eraseIdx k)), some (false, .bl b), some (false, .int (n : Nat)), v20, v21, v22, v23] =
    .ok (.nx [some (false, S0), some (false, DR), some (false, rsE rs), some (false, PT), some (false, .int MN), v5, some (false, .lst (rowsD rs)), some (false, .tup (rowsD rs)), some (false, .lst (sortsD rs)), some (false, .tup (firstsD rs)), some (false, .int (k : Nat)), v11, v12, v13, v14, v15, v16, some (false, rsE (rs.eraseIdx k)), some (false, .bl (b && ((sampOf rs)[n]?).all (dueT rs k))), some (false, .int (n : Nat)), v20, o21, v22, v23]) := by
  have hg : (sampOf rs)[n]? = some (sampOf rs)[n] := by simp
  have hr := samp_dom h _ (List.getElem_mem hn)
  generalize (sampOf rs)[n] = r at *
  have h1 : atI (sortsD rs) (n : Nat) = some (oiE (firstR rs r)) := by rw [Pi.atI_nat, sortsD, List.getElem?_map, List.getElem?_map, hg]; rfl
  have h2 : atI (rowsD rs) (n : Nat) = some r.enc := by rw [Pi.atI_nat, rowsD, List.getElem?_map, hg]; rfl
  have hs := h.sub (List.eraseIdx_sublist rs k)
  have h3 := lfirst_eq (rs.eraseIdx k) r hs.ok hr.ok
  have h4 := eq_oi (m := .fz) (n := .fz) (firstR rs r) (some k) false
  have h4' : blG false eqD (.fz, oiE (firstR rs r)) (.fz, .int (k : Nat)) = some (.fz, .bl (decide (firstR rs r = some k))) := h4
  have ht : ∀ as, callK tflaw 6 as = callG f_law_first as := fun _ => rfl
  have ha : ∀ a : Option Nat, (oiE a).atom = true := fun a => by cases a <;> rfl
  rw [hg]
  show ∃ o21, _ = Res.ok (Fl.nx [some (false, S0), some (false, DR), some (false, rsE rs), some (false, PT), some (false, .int MN), v5, some (false, .lst (rowsD rs)), some (false, .tup (rowsD rs)), some (false, .lst (sortsD rs)), some (false, .tup (firstsD rs)), some (false, .int (k : Nat)), v11, v12, v13, v14, v15, v16, some (false, rsE (rs.eraseIdx k)), some (false, .bl (b && dueT rs k r)), some (false, .int (n : Nat)), v20, o21, v22, v23])
  unfold bDueN bDueK bDueAll bMain bflaw
  simp only
  by_cases hf : firstR rs r = some k
  · have hd : dueT rs k r = decide (target (rs.eraseIdx k) r = target rs r) := if_pos hf
    obtain ⟨q, hq1, hq2⟩ := target_first hf
    have h5 : atI (rs.map ruE) (k : Nat) = some (ruE q) := by rw [Pi.atI_nat, List.getElem?_map, hq1]; rfl
    rw [decide_eq_true hf] at h4'
    refine ⟨some (false, oiE (firstR (rs.eraseIdx k) r)), ?_⟩
    have hc : ev tflaw (.op .eq (.ix (.var 8) (.var 19)) (.var 10)) [some (false, S0), some (false, DR), some (false, rsE rs), some (false, PT), some (false, .int MN), v5, some (false, .lst (rowsD rs)), some (false, .tup (rowsD rs)), some (false, .lst (sortsD rs)), some (false, .tup (firstsD rs)), some (false, .int (k : Nat)), v11, v12, v13, v14, v15, v16, some (false, rsE (rs.eraseIdx k)), some (false, .bl b), some (false, .int (n : Nat)), v20, v21, v22, v23] = .ok (.fz, .bl true) := by
      simp [ix_lst elOk_fz, h1, h4', ha]
    have hr2 : ev tflaw (.ix (.var 6) (.var 19)) [some (false, S0), some (false, DR), some (false, rsE rs), some (false, PT), some (false, .int MN), v5, some (false, .lst (rowsD rs)), some (false, .tup (rowsD rs)), some (false, .lst (sortsD rs)), some (false, .tup (firstsD rs)), some (false, .int (k : Nat)), v11, v12, v13, v14, v15, v16, some (false, rsE (rs.eraseIdx k)), some (false, .bl b), some (false, .int (n : Nat)), v20, v21, v22, v23] = .ok (.fz, r.enc) := by
      simp [ix_lst elOk_fz, h2]
    have hc2 : ev tflaw (.call 6 (.cons (.var 17) (.cons (.ix (.var 6) (.var 19)) .nil))) [some (false, S0), some (false, DR), some (false, rsE rs), some (false, PT), some (false, .int MN), v5, some (false, .lst (rowsD rs)), some (false, .tup (rowsD rs)), some (false, .lst (sortsD rs)), some (false, .tup (firstsD rs)), some (false, .int (k : Nat)), v11, v12, v13, v14, v15, v16, some (false, rsE (rs.eraseIdx k)), some (false, .bl b), some (false, .int (n : Nat)), v20, v21, v22, v23] = .ok (.fz, oiE (firstR (rs.eraseIdx k) r)) := by
      simp only [ev_call, evs_cons_s, hr2, ev_var, List.getElem?_cons_succ, List.getElem?_cons_zero, Bool.false_and, Bool.false_eq_true, if_false, rb_ok, consK_eq, evs_nil_s, consB_eq]
      exact callK_of (p := (_, _, f_law_first)) rfl h3 rfl
    rw [exs_cons_s, exS_ite, hc, rb_ok, ifK_eq, toB_bl, rb_ok, ifB_eq, if_pos rfl]
    rw [exs_seq (ρ' := [some (false, S0), some (false, DR), some (false, rsE rs), some (false, PT), some (false, .int MN), v5, some (false, .lst (rowsD rs)), some (false, .tup (rowsD rs)), some (false, .lst (sortsD rs)), some (false, .tup (firstsD rs)), some (false, .int (k : Nat)), v11, v12, v13, v14, v15, v16, some (false, rsE (rs.eraseIdx k)), some (false, .bl b), some (false, .int (n : Nat)), v20, some (false, oiE (firstR (rs.eraseIdx k) r)), v22, v23]) (set_fz hc2 (by simp))]
    generalize hO : oiE (firstR (rs.eraseIdx k) r) = O
    have hOa : O.atom = true := hO ▸ ha _
    cases e : firstR (rs.eraseIdx k) r with
    | none =>
      have ht0 : target (rs.eraseIdx k) r = none := by
        unfold target; rw [← find_first, e]; rfl
      have hd2 : dueT rs k r = false := by rw [hd, ht0, hq2]; simp
      rw [e] at hO
      have hOn : O = .non := hO.symm
      subst hOn
      simp [hd2]
    | some j =>
      obtain ⟨q2, hj1, hj2⟩ := target_first e
      have h6 : atI ((rs.eraseIdx k).map ruE) (j : Nat) = some (ruE q2) := by rw [Pi.atI_nat, List.getElem?_map, hj1]; rfl
      have hd2 : dueT rs k r = decide (q2.2 = q.2) := by rw [hd, hj2, hq2]; simp
      rw [e] at hO
      have hOn : O = .int (j : Nat) := hO.symm
      subst hOn
      have ixr : ∀ (q : Rule) (m n : Mo), ixG (m, ruE q) (n, .int 1) = some (.fz, .str q.2) := fun _ _ _ => rfl
      simp [hd2, h5, h6, ixr]
  · have hd : dueT rs k r = true := if_neg hf
    rw [decide_eq_false hf] at h4'
    refine ⟨v21, ?_⟩
    simp [ix_lst elOk_fz, h1, h4', ha, hd]
/-- a rule's turn -/
theorem dueK_eq (hS : S0.atom = true) (v5 v10 v11 v12 v13 v14 v15 v16 v17 v18 v19 v20 v21 v22 v23 : Option (Bool × D)) {k : Nat} (hk : k < rs.length) (L : List Nat) (hL : L.length ≤ 100) : ∃ o17 o18 o19 o21, exs tflaw xsC bDueK [some (false, S0), some (false, DR), some (false, rsE rs), some (false, PT), some (false, .int MN), v5, some (false, .lst (rowsD rs)), some (false, .tup (rowsD rs)), some (false, .lst (sortsD rs)), some (false, .tup (firstsD rs)), some (false, .int (k : Nat)), v11, v12, v13, some (false, .lst (L.map fun (i : Nat) => .int (i : Nat))), v15, v16, v17, v18, v19, v20, v21, v22, v23] =
    .ok (.nx [some (false, S0), some (false, DR), some (false, rsE rs), some (false, PT), some (false, .int MN), v5, some (false, .lst (rowsD rs)), some (false, .tup (rowsD rs)), some (false, .lst (sortsD rs)), some (false, .tup (firstsD rs)), some (false, .int (k : Nat)), v11, v12, v13, some (false, .lst ((L ++ if dueB rs k = true then [k] else []).map fun (i : Nat) => .int (i : Nat))), v15, v16, o17, o18, o19, v20, o21, v22, v23]) := by
  have hz := samp_len h
  have c1 := cut_tup (rs.map ruE) k .fz
  have c2 := drop_tup (rs.map ruE) (k + 1) .fz
  have c3 := add_tup .fz .fz (a := (rs.map ruE).take k) (b := (rs.map ruE).drop (k + 1)) (by rw [sz_line, List.length_take, List.length_drop, List.length_map]; omega)
  have e : rsE (rs.eraseIdx k) = .tup ((rs.map ruE).take k ++ (rs.map ruE).drop (k + 1)) := by
    show D.tup _ = _
    rw [List.eraseIdx_eq_take_drop_succ, List.map_append, List.map_take, List.map_drop]
  rw [← e] at c3
  have c2' : slG (Mo.fz, D.tup (List.map ruE rs)) (some ((k : Int) + 1)) none = some (.fz, .tup ((rs.map ruE).drop (k + 1))) := c2
  have key : (fun R => ∃ o17 o18 o19 o21, R = .ok (.nx [some (false, S0), some (false, DR), some (false, rsE rs), some (false, PT), some (false, .int MN), v5, some (false, .lst (rowsD rs)), some (false, .tup (rowsD rs)), some (false, .lst (sortsD rs)), some (false, .tup (firstsD rs)), some (false, .int (k : Nat)), v11, v12, v13, some (false, .lst ((L ++ if dueB rs k = true then [k] else []).map fun (i : Nat) => .int (i : Nat))), v15, v16, o17, o18, o19, v20, o21, v22, v23])) (exs tflaw xsC bDueK [some (false, S0), some (false, DR), some (false, rsE rs), some (false, PT), some (false, .int MN), v5, some (false, .lst (rowsD rs)), some (false, .tup (rowsD rs)), some (false, .lst (sortsD rs)), some (false, .tup (firstsD rs)), some (false, .int (k : Nat)), v11, v12, v13, some (false, .lst (L.map fun (i : Nat) => .int (i : Nat))), v15, v16, v17, v18, v19, v20, v21, v22, v23]) := by
    unfold bDueK bDueAll bMain bflaw
    simp only
    refine seqP (P := fun R => ∃ o17 o18 o19 o21, R = .ok (.nx [some (false, S0), some (false, DR), some (false, rsE rs), some (false, PT), some (false, .int MN), v5, some (false, .lst (rowsD rs)), some (false, .tup (rowsD rs)), some (false, .lst (sortsD rs)), some (false, .tup (firstsD rs)), some (false, .int (k : Nat)), v11, v12, v13, some (false, .lst ((L ++ if dueB rs k = true then [k] else []).map fun (i : Nat) => .int (i : Nat))), v15, v16, o17, o18, o19, v20, o21, v22, v23])) [some (false, S0), some (false, DR), some (false, rsE rs), some (false, PT), some (false, .int MN), v5, some (false, .lst (rowsD rs)), some (false, .tup (rowsD rs)), some (false, .lst (sortsD rs)), some (false, .tup (firstsD rs)), some (false, .int (k : Nat)), v11, v12, v13, some (false, .lst (L.map fun (i : Nat) => .int (i : Nat))), v15, v16, some (false, rsE (rs.eraseIdx k)), v18, v19, v20, v21, v22, v23] (by simp [c1, c2', c3, -List.map_take, -List.map_drop]) ?_
    refine seqP (P := fun R => ∃ o17 o18 o19 o21, R = .ok (.nx [some (false, S0), some (false, DR), some (false, rsE rs), some (false, PT), some (false, .int MN), v5, some (false, .lst (rowsD rs)), some (false, .tup (rowsD rs)), some (false, .lst (sortsD rs)), some (false, .tup (firstsD rs)), some (false, .int (k : Nat)), v11, v12, v13, some (false, .lst ((L ++ if dueB rs k = true then [k] else []).map fun (i : Nat) => .int (i : Nat))), v15, v16, o17, o18, o19, v20, o21, v22, v23])) [some (false, S0), some (false, DR), some (false, rsE rs), some (false, PT), some (false, .int MN), v5, some (false, .lst (rowsD rs)), some (false, .tup (rowsD rs)), some (false, .lst (sortsD rs)), some (false, .tup (firstsD rs)), some (false, .int (k : Nat)), v11, v12, v13, some (false, .lst (L.map fun (i : Nat) => .int (i : Nat))), v15, v16, some (false, rsE (rs.eraseIdx k)), some (false, .bl true), v19, v20, v21, v22, v23] (by simp) ?_
    refine for_pre (P := fun R => ∃ o17 o18 o19 o21, R = .ok (.nx [some (false, S0), some (false, DR), some (false, rsE rs), some (false, PT), some (false, .int MN), v5, some (false, .lst (rowsD rs)), some (false, .tup (rowsD rs)), some (false, .lst (sortsD rs)), some (false, .tup (firstsD rs)), some (false, .int (k : Nat)), v11, v12, v13, some (false, .lst ((L ++ if dueB rs k = true then [k] else []).map fun (i : Nat) => .int (i : Nat))), v15, v16, o17, o18, o19, v20, o21, v22, v23])) (fun p ρ => ∃ o19 o21, ρ = [some (false, S0), some (false, DR), some (false, rsE rs), some (false, PT), some (false, .int MN), v5, some (false, .lst (rowsD rs)), some (false, .tup (rowsD rs)), some (false, .lst (sortsD rs)), some (false, .tup (firstsD rs)), some (false, .int (k : Nat)), v11, v12, v13, some (false, .lst (L.map fun (i : Nat) => .int (i : Nat))), v15, v16, some (false, rsE (rs.eraseIdx k)), some (false, .bl (p.all fun n => ((sampOf rs)[n]?).all (dueT rs k))), o19, v20, o21, v22, v23]) (l := List.range (sampOf rs).length) (enc := fun (i : Nat) => .int (i : Nat))
      (by
        have := rng_nat .fz (n := (sampOf rs).length) (by omega)
        have hrl : (rowsD rs).length = (sampOf rs).length := List.length_map ..
        simp [hrl, this]) ⟨v19, v21, rfl⟩ (fun p n post ρ e3 ⟨o19, o21, e4⟩ => ?_) fun ρ ⟨o19, o21, e4⟩ => ?_
    · subst e4
      have hn : n < (sampOf rs).length := List.mem_range.mp (by rw [e3]; simp)
      generalize hb : (p.all fun n => ((sampOf rs)[n]?).all (dueT rs k)) = b
      obtain ⟨o, ho⟩ := dueN_eq S0 DR PT MN h n8 hS v5 v10 v11 v12 v13 (some (false, .lst (L.map fun (i : Nat) => .int (i : Nat)))) v15 v16 v17 v18 v19 v20 o21 v22 v23 hk hn b
      refine ⟨[some (false, S0), some (false, DR), some (false, rsE rs), some (false, PT), some (false, .int MN), v5, some (false, .lst (rowsD rs)), some (false, .tup (rowsD rs)), some (false, .lst (sortsD rs)), some (false, .tup (firstsD rs)), some (false, .int (k : Nat)), v11, v12, v13, some (false, .lst (L.map fun (i : Nat) => .int (i : Nat))), v15, v16, some (false, rsE (rs.eraseIdx k)), some (false, .bl b), some (false, .int (n : Nat)), v20, o21, v22, v23], by simp [bindT, setR], ?_⟩
      refine Nx.of _ ho ⟨some (false, .int (n : Nat)), o, ?_⟩
      rw [List.all_append, hb]
      simp
    · subst e4
      have ha : (L.map fun (i : Nat) => D.int (i : Nat)).all D.atom = true := atoms_map _ (fun _ => rfl) _
      have hl : lstG [(.fz, .int (k : Nat))] = some (.ow, .lst [.int (k : Nat)]) := rfl
      have hl0 : lstG [] = some (.ow, .lst []) := rfl
      have ad : ∀ X : List Nat, X.length ≤ 1 → addG (.fz, .lst (L.map fun (i : Nat) => D.int (i : Nat))) (.ow, .lst (X.map fun (i : Nat) => D.int (i : Nat))) = some (.ow, .lst ((L ++ X).map fun (i : Nat) => .int (i : Nat))) := fun X hX => by
        have hx : (X.map fun (i : Nat) => D.int (i : Nat)).all D.atom = true := atoms_map _ (fun _ => rfl) _
        rw [add_lst (by rw [sz_line, List.length_map, List.length_map]; omega) (elOk_atoms ha) (elOk_atoms hx), ← List.map_append, lmo_atoms (atoms_map _ (fun _ => rfl) _)]
      rw [range_all]
      show ∃ o17 o18 o19 o21, _ = _
      refine ⟨some (false, rsE (rs.eraseIdx k)), some (false, .bl ((sampOf rs).all (dueT rs k))), o19, o21, ?_⟩
      show _ = Res.ok (Fl.nx [some (false, S0), some (false, DR), some (false, rsE rs), some (false, PT), some (false, .int MN), v5, some (false, .lst (rowsD rs)), some (false, .tup (rowsD rs)), some (false, .lst (sortsD rs)), some (false, .tup (firstsD rs)), some (false, .int (k : Nat)), v11, v12, v13, some (false, .lst ((L ++ if (sampOf rs).all (dueT rs k) = true then [k] else []).map fun (i : Nat) => .int (i : Nat))), v15, v16, some (false, rsE (rs.eraseIdx k)), some (false, .bl ((sampOf rs).all (dueT rs k))), o19, v20, o21, v22, v23])
      cases (sampOf rs).all (dueT rs k) with
      | true =>
        have := ad [k] (by simp)
        simp only [List.map_cons, List.map_nil] at this
        simp [hl, this, -List.map_append]
      | false =>
        have := ad [] (by simp)
        simp only [List.map_nil, List.append_nil] at this
        simp [hl0, this]
  exact key
end

end K77

set_option Elab.async false
set_option linter.all false
set_option maxRecDepth 100000
set_option maxHeartbeats 4000000
/-! K77z (printed by mk77z.py): rules that can go, bank rows. -/
namespace K77
open PySem PySem.Spec PyProof.Rows L2 Pi
theorem callK_nb {T : Tab} {f : Nat} {as : List (Mo × D)} {p : Str × Nat × (List D → Res (Mo × D))} {m : Mo} {d : D} (hf : T.fn[f]? = some p) (h : p.2.2 (as.map (·.2)) = .ok (m, d)) (hm : m ≠ .bo) (ha : (as.all fun a => decide (a.1 ≠ .bo)) = true) : callK T f as = .ok (m, d) := by
  rw [callK_eq, hf]
  show callG p.2.2 as = _
  generalize p.2.2 = F at *
  unfold callG
  rw [h]
  simp only
  rw [if_neg]
  rintro (q | ⟨q, _⟩)
  · exact hm q
  · rw [List.any_eq_true] at q
    obtain ⟨x, hx, e⟩ := q
    rw [List.all_eq_true] at ha
    have := ha x hx
    simp at this e
    exact this e
theorem pl_ints (n : Nat) (l : List Nat) : (D.tup (l.map fun (i : Nat) => .int (i : Nat))).pl (n + 1) = true := by
  unfold D.pl
  exact pls_of fun d hd => by
    obtain ⟨i, _, e⟩ := List.mem_map.mp hd
    rw [← e]; cases n <;> (unfold D.pl; rfl)
theorem sapart_none {rs L : List Rule} (h : RsU rs) (n8 : rs.length ≤ 8) (hL : L.Sublist rs) (hs : Same L rs) : fsorted_apart [rsE L, rsE rs] = .ok (.fz, .non) := by
  unfold fsorted_apart bfsorted_apart
  have hu := h.sub hL
  have hl : L.length ≤ 8 := Nat.le_trans hL.length_le n8
  have hck := check2 hu hl h n8
  have hc := sampOf_congr (sameC_app' (rs := rs) (ss := L) fun q hq => hL.subset hq)
  have ha := apart_eq hu h hl n8 fun r hr => (samp_dom h r (hc ▸ hr)).ok
  have hn : (sampOf (L ++ rs)).find? (fun r => decide (target L r ≠ target rs r)) = none := by
    rw [hc, List.find?_eq_none]
    intro r hr
    have := hs r (samp_dom h r hr)
    simp [this]
  rw [hn] at ha
  have ha : f_apart [rsE L, rsE rs] = .ok (.fz, .non) := ha
  refine runF_of (.ok (.rt .fz .non)) ?_ rfl
  have hlst : lstG [(.fz, rsE L), (.fz, rsE rs)] = some (.ow, .lst [rsE L, rsE rs]) := rfl
  have c0 : callK tfsorted_apart 0 [(.ow, .lst [rsE L, rsE rs])] = .ok (.fz, .non) := callK_of (p := (_, _, fcheck_rules)) rfl hck rfl
  have c1 : callK tfsorted_apart 1 [(.fz, rsE L), (.fz, rsE rs)] = .ok (.fz, .non) := callK_of (p := (_, _, f_apart)) rfl ha rfl
  simp [hlst, c0, c1, -callK_eq]

section
variable (S0 DR PT : D) (MN : Int) {rs : List Rule} (h : RsU rs) (n8 : rs.length ≤ 8)
include h n8
theorem dueAll_eq (hS : S0.atom = true) (v5 v10 v11 v12 v13 v14 v15 v16 v17 v18 v19 v20 v21 v22 v23 : Option (Bool × D)) : ∃ o10 o14 o15 o17 o18 o19 o21, exs tflaw xsC bDueAll [some (false, S0), some (false, DR), some (false, rsE rs), some (false, PT), some (false, .int MN), v5, some (false, .lst (rowsD rs)), some (false, .tup (rowsD rs)), some (false, .lst (sortsD rs)), some (false, .tup (firstsD rs)), v10, v11, v12, v13, v14, v15, v16, v17, v18, v19, v20, v21, v22, v23] = .ok (.nx [some (false, S0), some (false, DR), some (false, rsE rs), some (false, PT), some (false, .int MN), v5, some (false, .lst (rowsD rs)), some (false, .tup (rowsD rs)), some (false, .lst (sortsD rs)), some (false, .tup (firstsD rs)), o10, v11, v12, v13, o14, o15, v16, o17, o18, o19, v20, o21, v22, v23]) := by
  have hb : bDueAll = .cons (.set 14 false (.lst .nil)) (.cons (.for (.nm 10) (.rng (.cons (.bi .len (.cons (.var 2) .nil)) .nil)) bDueK) (.cons (.set 15 false (.call 9 (.cons (.var 2) .nil))) (.cons (.ite (.or (.op .ne (.call 11 (.cons (.var 2) .nil)) (.bi .tuple (.cons (.var 14) .nil))) (.or (.op .ne (.call 11 (.cons (.var 15) .nil)) (.tup .nil)) (.op (.is true) (.call 10 (.cons (.var 15) (.cons (.var 2) .nil))) (.con .non)))) (.cons (.ret (.con (.bl false))) .nil) .nil) .nil))) := by kernel_rfl
  rw [hb]
  have hl0 : lstG [] = some (.ow, .lst []) := rfl
  refine seqP (P := fun R => ∃ o10 o14 o15 o17 o18 o19 o21, R = .ok (.nx [some (false, S0), some (false, DR), some (false, rsE rs), some (false, PT), some (false, .int MN), v5, some (false, .lst (rowsD rs)), some (false, .tup (rowsD rs)), some (false, .lst (sortsD rs)), some (false, .tup (firstsD rs)), o10, v11, v12, v13, o14, o15, v16, o17, o18, o19, v20, o21, v22, v23])) [some (false, S0), some (false, DR), some (false, rsE rs), some (false, PT), some (false, .int MN), v5, some (false, .lst (rowsD rs)), some (false, .tup (rowsD rs)), some (false, .lst (sortsD rs)), some (false, .tup (firstsD rs)), v10, v11, v12, v13, some (false, .lst []), v15, v16, v17, v18, v19, v20, v21, v22, v23] (by simp [hl0]) ?_
  refine for_pre (P := fun R => ∃ o10 o14 o15 o17 o18 o19 o21, R = .ok (.nx [some (false, S0), some (false, DR), some (false, rsE rs), some (false, PT), some (false, .int MN), v5, some (false, .lst (rowsD rs)), some (false, .tup (rowsD rs)), some (false, .lst (sortsD rs)), some (false, .tup (firstsD rs)), o10, v11, v12, v13, o14, o15, v16, o17, o18, o19, v20, o21, v22, v23])) (fun p ρ => ∃ o10 o17 o18 o19 o21, ρ = [some (false, S0), some (false, DR), some (false, rsE rs), some (false, PT), some (false, .int MN), v5, some (false, .lst (rowsD rs)), some (false, .tup (rowsD rs)), some (false, .lst (sortsD rs)), some (false, .tup (firstsD rs)), o10, v11, v12, v13, some (false, .lst ((p.filter (dueB rs)).map fun (i : Nat) => .int (i : Nat))), v15, v16, o17, o18, o19, v20, o21, v22, v23]) (l := List.range rs.length) (enc := fun (i : Nat) => .int (i : Nat))
    (by
      have := rng_nat .fz (n := rs.length) (by omega)
      simp [this]) ⟨v10, v17, v18, v19, v21, rfl⟩ (fun p k post ρ e ⟨o10, o17, o18, o19, o21, e2⟩ => ?_) fun ρ ⟨o10, o17, o18, o19, o21, e2⟩ => ?_
  · subst e2
    have hk : k < rs.length := List.mem_range.mp (by rw [e]; simp)
    have hp : p.length ≤ 8 := by
      have h2 := congrArg List.length e
      rw [List.length_range, List.length_append, List.length_cons] at h2
      omega
    have hfl := List.length_filter_le (dueB rs) p
    obtain ⟨q17, q18, q19, q21, hq⟩ := dueK_eq S0 DR PT MN h n8 hS v5 o10 v11 v12 v13 v14 v15 v16 o17 o18 o19 v20 o21 v22 v23 hk (p.filter (dueB rs)) (by omega)
    refine ⟨[some (false, S0), some (false, DR), some (false, rsE rs), some (false, PT), some (false, .int MN), v5, some (false, .lst (rowsD rs)), some (false, .tup (rowsD rs)), some (false, .lst (sortsD rs)), some (false, .tup (firstsD rs)), some (false, .int (k : Nat)), v11, v12, v13, some (false, .lst ((p.filter (dueB rs)).map fun (i : Nat) => .int (i : Nat))), v15, v16, o17, o18, o19, v20, o21, v22, v23], by simp [bindT, setR], ?_⟩
    refine Nx.of _ hq ⟨some (false, .int (k : Nat)), q17, q18, q19, q21, ?_⟩
    rw [List.filter_append, List.filter_cons, List.filter_nil]
  · subst e2
    have hidle := idle_eq h n8
    have hd : dueB rs = idleB rs := funext (due_idle rs)
    obtain ⟨L, hL1, hL2, hL3, hL4⟩ := fewer_law rs rs.length [] (Nat.le_refl _) (by intro A q B e; simp at e)
    rw [List.take_length, List.append_nil] at hL1 hL2 hL3
    have hfew := fewer_eq h n8
    rw [hL1] at hfew
    have hu := h.sub hL2
    have hll : L.length ≤ 8 := Nat.le_trans hL2.length_le n8
    have hidle2 := idle_eq hu hll
    have hnone : (List.range L.length).filter (idleB L) = [] := by
      rw [List.filter_eq_nil_iff]
      intro k hk hi
      exact ndd_end hL4 (List.mem_range.mp hk) ((idleB_iff hu k).mp hi)
    rw [hnone] at hidle2
    have hsap := sapart_none h n8 hL2 hL3
    refine seqP (P := fun R => ∃ o10 o14 o15 o17 o18 o19 o21, R = .ok (.nx [some (false, S0), some (false, DR), some (false, rsE rs), some (false, PT), some (false, .int MN), v5, some (false, .lst (rowsD rs)), some (false, .tup (rowsD rs)), some (false, .lst (sortsD rs)), some (false, .tup (firstsD rs)), o10, v11, v12, v13, o14, o15, v16, o17, o18, o19, v20, o21, v22, v23])) [some (false, S0), some (false, DR), some (false, rsE rs), some (false, PT), some (false, .int MN), v5, some (false, .lst (rowsD rs)), some (false, .tup (rowsD rs)), some (false, .lst (sortsD rs)), some (false, .tup (firstsD rs)), o10, v11, v12, v13, some (false, .lst (((List.range rs.length).filter (dueB rs)).map fun (i : Nat) => .int (i : Nat))), some (false, rsE L), v16, o17, o18, o19, v20, o21, v22, v23] (by
      have c : callK tflaw 9 [(.fz, rsE rs)] = .ok (.fz, rsE L) := callK_of (p := (_, _, ffewer)) rfl hfew rfl
      simp [c, -callK_eq]) ?_
    rw [hd]
    have hT : tupG (.fz, .lst (((List.range rs.length).filter (idleB rs)).map fun (i : Nat) => D.int (i : Nat))) = some (.fz, .tup (((List.range rs.length).filter (idleB rs)).map fun (i : Nat) => D.int (i : Nat))) := by
      unfold tupG; simp only; rw [if_pos elOk_fz]
    have c11 : callK tflaw 11 [(.fz, rsE rs)] = .ok (.fz, .tup (((List.range rs.length).filter (idleB rs)).map fun (i : Nat) => D.int (i : Nat))) := callK_of (p := (_, _, fidle)) rfl hidle rfl
    have c11b : callK tflaw 11 [(.fz, rsE L)] = .ok (.fz, .tup []) := callK_of (p := (_, _, fidle)) rfl hidle2 rfl
    have c10 : callK tflaw 10 [(.fz, rsE L), (.fz, rsE rs)] = .ok (.fz, .non) := callK_of (p := (_, _, fsorted_apart)) rfl hsap rfl
    have n1 := ne_refl (m := .fz) (n := .fz) (pl_ints 63 ((List.range rs.length).filter (idleB rs)))
    have n2 : blG true eqD (.fz, .tup []) (.fz, .tup []) = some (.fz, .bl false) := ne_refl (by unfold D.pl D.pls; rfl)
    have t0 : tupDG [] = some (.fz, .tup []) := rfl
    generalize D.tup (((List.range rs.length).filter (idleB rs)).map fun (i : Nat) => D.int (i : Nat)) = TI at *
    generalize hTL : D.lst (((List.range rs.length).filter (idleB rs)).map fun (i : Nat) => D.int (i : Nat)) = TL at *
    have hta : TL.atom = false := hTL ▸ rfl
    exact ⟨o10, some (false, TL), some (false, rsE L), o17, o18, o19, o21, by simp [c11, c11b, c10, n1, n2, t0, hT, -callK_eq]⟩
/-! bank rows at the ends -/
theorem pl_kept (rs : List Rule) (r : Row) (n : Nat) : (D.lst (keptD rs r)).pl (n + 2) = true := by
  unfold D.pl keptD
  exact pls_of fun d hd => by
    obtain ⟨q, _, e⟩ := List.mem_map.mp hd
    rw [← e]
    unfold D.pl
    exact pls_of fun d hd => by
      obtain ⟨c, _, e⟩ := List.mem_map.mp hd
      rw [← e]; cases n <;> (unfold D.pl; rfl)
end
theorem pl_kept' (rs : List Rule) (r : Row) (n : Nat) : (D.lst (keptD rs r)).pl (n + 2) = true := by
  unfold D.pl keptD
  exact pls_of fun d hd => by
    obtain ⟨q, _, e⟩ := List.mem_map.mp hd
    rw [← e]
    unfold D.pl
    exact pls_of fun d hd => by
      obtain ⟨c, _, e⟩ := List.mem_map.mp hd
      rw [← e]; cases n <;> (unfold D.pl; rfl)
section
variable (S0 PT : D) (MN : Int) {rs : List Rule} (h : RsU rs) (n8 : rs.length ≤ 8) (hne : rs ≠ []) {ds : List Int} (hds : GoodDs ds)
include h n8 hne hds

theorem six_eq (v5 v10 v11 v12 v13 v14 v15 v16 v17 v18 v19 v20 v21 v22 v23 : Option (Bool × D)) {k : Nat} (hk : k < 6) : ∃ o16, exs tflaw xsC bSix [some (false, S0), some (false, .lst (ds.map .int)), some (false, rsE rs), some (false, PT), some (false, .int MN), v5, some (false, .lst (rowsD rs)), some (false, .tup (rowsD rs)), some (false, .lst (sortsD rs)), some (false, .tup (firstsD rs)), some (false, .int (k : Nat)), v11, v12, v13, v14, v15, v16, v17, v18, v19, v20, v21, v22, v23] = .ok (.nx [some (false, S0), some (false, .lst (ds.map .int)), some (false, rsE rs), some (false, PT), some (false, .int MN), v5, some (false, .lst (rowsD rs)), some (false, .tup (rowsD rs)), some (false, .lst (sortsD rs)), some (false, .tup (firstsD rs)), some (false, .int (k : Nat)), v11, v12, v13, v14, v15, o16, v17, v18, v19, v20, v21, v22, v23]) := by
  have hat : ∀ i : Int, 0 ≤ i → i < 80 → ∃ x : Int, 0 ≤ x ∧ atI (ds.map D.int) i = some (.int x) := fun i h0 h1 => by
    obtain ⟨s, hs, e⟩ := at_map D.int (l := ds) h0 (by rw [hds.1]; exact h1)
    exact ⟨s, hds.2 s hs, e⟩
  obtain ⟨x, hx, ex⟩ := hat (60 + (k : Nat)) (by omega) (by omega)
  obtain ⟨y, hy, ey⟩ := hat (66 + (k : Nat)) (by omega) (by omega)
  obtain ⟨z, hz, ez⟩ := hat (72 + (k : Nat)) (by omega) (by omega)
  obtain ⟨d, hd, ed⟩ := at_map D.int (l := [0, 100000, 99999, 7]) (show 0 ≤ x % 4 by omega) (by simp; omega)
  obtain ⟨a, ha, ea⟩ := at_map D.str (l := [[97], [122, 122], [97, 58, 98, 58, 99, 58, 100]]) (show 0 ≤ y % 3 by omega) (by simp; omega)
  obtain ⟨m, hm, em⟩ := at_map D.int (l := [1000000000000000, -1000000000000000, 0]) (show 0 ≤ z % 3 by omega) (by simp; omega)
  obtain ⟨w, hw, ew⟩ := at_map D.str (l := [[], [120], [114,101,110,116,32,120]]) (show 0 ≤ x / 4 % 3 by omega) (by simp; omega)
  have dD : ∀ d ∈ [(0 : Int), 100000, 99999, 7], d ∈ Dall := by decide
  have dA : ∀ a ∈ [[97], [122, 122], [97, 58, 98, 58, 99, 58, 100]], a ∈ Aall := by decide +kernel
  have dM : ∀ a ∈ [(1000000000000000 : Int), -1000000000000000, 0], a ∈ Mall := by decide
  have dW : ∀ a ∈ [[], [120], [114,101,110,116,32,120]], a ∈ Tall := by decide +kernel
  have hr : DomR ⟨d, a, m, w⟩ := ⟨dD d hd, dA a ha, dM m hm, dW w hw⟩
  simp only [List.map_cons, List.map_nil] at ed ea em ew
  have p15 : at2 powG (.fz, .int 10) (.fz, .int 15) = some (.fz, .int 1000000000000000) := by kernel_rfl
  have fd4 : at2 fdivG (.fz, .int x) (.fz, .int 4) = some (.fz, .int (x / 4)) := fdiv_int (by decide) (by decide)
  have hcat : addG (.fz, .tup [.int d, .str a]) (.fz, .tup [.int m, .str w]) = some (.fz, Row.enc ⟨d, a, m, w⟩) := add_tup .fz .fz (by rw [sz_line]; simp)
  have tD : ∀ a b c d : D, tupDG [(.fz, a), (.fz, b), (.fz, c), (.fz, d)] = some (.fz, .tup [a, b, c, d]) := fun _ _ _ _ => rfl
  have tD3 : ∀ a b c : D, tupDG [(.fz, a), (.fz, b), (.fz, c)] = some (.fz, .tup [a, b, c]) := fun _ _ _ => rfl
  have tD2 : ∀ a b : D, tupDG [(.fz, a), (.fz, b)] = some (.fz, .tup [a, b]) := fun _ _ => rfl
  have h13 := sortedby_eq h n8 hr
  have h6 := lfirst_eq rs _ h.ok hr.ok
  have h12 := lkept_eq h hne hr.ok
  generalize hrow : (⟨d, a, m, w⟩ : Row) = r at *
  have c13 : callK tflaw 13 [(.fz, rsE rs), (.fz, r.enc)] = .ok (.fz, oiE (firstR rs r)) := callK_of (p := (_, _, fsorted_by)) rfl h13 rfl
  have c6 : callK tflaw 6 [(.fz, rsE rs), (.fz, r.enc)] = .ok (.fz, oiE (firstR rs r)) := callK_of (p := (_, _, f_law_first)) rfl h6 rfl
  have c12 : callK tflaw 12 [(.fz, rsE rs), (.fz, r.enc)] = .ok (.fz, .lst (keptD rs r)) := callK_of (p := (_, _, f_law_kept)) rfl h12 rfl
  have n1 := eq_oi (m := .fz) (n := .fz) (firstR rs r) (firstR rs r) true
  simp only [decide_true, Bool.not_true, if_true] at n1
  -- one of the samples keeps the same
  have hlc : lcK tflaw (.call 12 (.cons (.var 2) (.cons (.var 22) .nil))) [22] (.nm 22) .no [some (false, S0), some (false, .lst (ds.map .int)), some (false, rsE rs), some (false, PT), some (false, .int MN), v5, some (false, .lst (rowsD rs)), some (false, .tup (rowsD rs)), some (false, .lst (sortsD rs)), some (false, .tup (firstsD rs)), some (false, .int (k : Nat)), v11, v12, v13, v14, v15, some (false, r.enc), v17, v18, v19, v20, v21, v22, v23] ((sampOf rs).map Row.enc) = .ok (lmo ((sampOf rs).map fun s => .lst (keptD rs s)), .lst ((sampOf rs).map fun s => .lst (keptD rs s))) := by
    have hzl := samp_len h
    have := lcK_of (T := tflaw) (e := .call 12 (.cons (.var 2) (.cons (.var 22) .nil))) (vs := [22]) (tg := .nm 22) (c := .no) (ρ := [some (false, S0), some (false, .lst (ds.map .int)), some (false, rsE rs), some (false, PT), some (false, .int MN), v5, some (false, .lst (rowsD rs)), some (false, .tup (rowsD rs)), some (false, .lst (sortsD rs)), some (false, .tup (firstsD rs)), some (false, .int (k : Nat)), v11, v12, v13, v14, v15, some (false, r.enc), v17, v18, v19, v20, v21, v22, v23]) (enc := Row.enc) (fun _ => true) (fun s => .lst (keptD rs s)) (l := sampOf rs) (by rw [sz_line]; omega) fun s hs => by
      refine ⟨[some (false, S0), some (false, .lst (ds.map .int)), some (false, rsE rs), some (false, PT), some (false, .int MN), v5, some (false, .lst (rowsD rs)), some (false, .tup (rowsD rs)), some (false, .lst (sortsD rs)), some (false, .tup (firstsD rs)), some (false, .int (k : Nat)), v11, v12, v13, v14, v15, some (false, r.enc), v17, v18, v19, v20, v21, some (false, s.enc), v23], by simp [wipeR, bindT, setR], by simp, fun _ => ⟨.fz, by decide, ?_⟩⟩
      have c := callK_of (T := tflaw) (f := 12) (as := [(.fz, rsE rs), (.fz, s.enc)]) (p := (_, _, f_law_kept)) rfl (lkept_eq h hne (samp_dom h s hs).ok) rfl
      simp [enc_atom, c, -callK_eq]
    rw [List.filter_eq_self.mpr (fun _ _ => rfl)] at this
    exact this
  have hin : ∀ mo : Mo, blG true inD2 (.fz, .lst (keptD rs r)) (mo, .lst ((sampOf rs).map fun s => .lst (keptD rs s))) = some (.fz, .bl false) := fun mo => by
    have hmem : D.lst (keptD rs r) ∈ (sampOf rs).map fun s => D.lst (keptD rs s) := by
      obtain ⟨s, hs1, hs2⟩ := cover h hr
      have e : keptD rs s = keptD rs r := by
        unfold keptD
        refine List.map_congr_left fun q hq => congrArg D.lst (List.map_congr_left fun c hc => ?_)
        rw [hs2 c (by unfold condsOf; exact List.mem_flatMap.mpr ⟨q, hq, hc⟩)]
      exact List.mem_map.mpr ⟨s, hs1, by rw [e]⟩
    have e := inD_mem (pl_kept' rs r 61) (fun d hd => by
      obtain ⟨s, _, e⟩ := List.mem_map.mp hd
      rw [← e]; exact pl_kept' rs s 61) hmem
    unfold blG
    rw [show inD2 (D.lst (keptD rs r)) (.lst ((sampOf rs).map fun s => .lst (keptD rs s))) = inD (D.lst (keptD rs r)) (.lst ((sampOf rs).map fun s => .lst (keptD rs s))) from rfl, e]
    rfl
  have hit : evi tflaw (.of (.var 6)) [some (false, S0), some (false, .lst (ds.map .int)), some (false, rsE rs), some (false, PT), some (false, .int MN), v5, some (false, .lst (rowsD rs)), some (false, .tup (rowsD rs)), some (false, .lst (sortsD rs)), some (false, .tup (firstsD rs)), some (false, .int (k : Nat)), v11, v12, v13, v14, v15, some (false, r.enc), v17, v18, v19, v20, v21, v22, v23] = .ok ((sampOf rs).map Row.enc) := by simp [rowsD]
  have hlce := ev_lc_of hit hlc
  have hb : bSix = .cons (.set 16 false (.tup (.cons (.ix (.tup (.cons (.con (.int 0)) (.cons (.con (.int 100000)) (.cons (.con (.int 99999)) (.cons (.con (.int 7)) .nil))))) (.op .mod (.bi .int (.cons (.ix (.var 1) (.op .add (.con (.int 60)) (.var 10))) .nil)) (.con (.int 4)))) (.cons (.ix (.tup (.cons (.con (.str [97])) (.cons (.con (.str [122,122])) (.cons (.con (.str [97,58,98,58,99,58,100])) .nil)))) (.op .mod (.bi .int (.cons (.ix (.var 1) (.op .add (.con (.int 66)) (.var 10))) .nil)) (.con (.int 3)))) .nil)))) (.cons (.set 16 false (.op .add (.var 16) (.tup (.cons (.ix (.tup (.cons (.op .pow (.con (.int 10)) (.con (.int 15))) (.cons (.op .sub (.con (.int 0)) (.op .pow (.con (.int 10)) (.con (.int 15)))) (.cons (.con (.int 0)) .nil)))) (.op .mod (.bi .int (.cons (.ix (.var 1) (.op .add (.con (.int 72)) (.var 10))) .nil)) (.con (.int 3)))) (.cons (.ix (.tup (.cons (.con (.str [])) (.cons (.con (.str [120])) (.cons (.con (.str [114,101,110,116,32,120])) .nil)))) (.op .mod (.op .fdiv (.bi .int (.cons (.ix (.var 1) (.op .add (.con (.int 60)) (.var 10))) .nil)) (.con (.int 4))) (.con (.int 3)))) .nil))))) (.cons (.ite (.or (.op .ne (.call 13 (.cons (.var 2) (.cons (.var 16) .nil))) (.call 6 (.cons (.var 2) (.cons (.var 16) .nil)))) (.op (.inn true) (.call 12 (.cons (.var 2) (.cons (.var 16) .nil))) (.lc (.call 12 (.cons (.var 2) (.cons (.var 22) .nil))) [22] (.nm 22) (.of (.var 6)) .no))) (.cons (.ret (.con (.bl false))) .nil) .nil) .nil)) := by kernel_rfl
  refine ⟨some (false, r.enc), ?_⟩
  rw [hb]
  rw [exs_seq (ρ' := [some (false, S0), some (false, .lst (ds.map .int)), some (false, rsE rs), some (false, PT), some (false, .int MN), v5, some (false, .lst (rowsD rs)), some (false, .tup (rowsD rs)), some (false, .lst (sortsD rs)), some (false, .tup (firstsD rs)), some (false, .int (k : Nat)), v11, v12, v13, v14, v15, some (false, .tup [.int d, .str a]), v17, v18, v19, v20, v21, v22, v23]) (by simp [tD, tD3, tD2, ix_lst elOk_fz, ex, ey, md4, md3, ed, ea])]
  rw [exs_seq (ρ' := [some (false, S0), some (false, .lst (ds.map .int)), some (false, rsE rs), some (false, PT), some (false, .int MN), v5, some (false, .lst (rowsD rs)), some (false, .tup (rowsD rs)), some (false, .lst (sortsD rs)), some (false, .tup (firstsD rs)), some (false, .int (k : Nat)), v11, v12, v13, v14, v15, some (false, r.enc), v17, v18, v19, v20, v21, v22, v23]) (by simp [tD, tD3, tD2, ix_lst elOk_fz, ex, ez, md3, p15, fd4, em, ew, hcat])]
  simp [enc_atom, c13, c6, c12, n1, hlce, hin, -callK_eq, -ev_lc]
end
end K77

set_option Elab.async false
set_option linter.all false
set_option maxRecDepth 100000
set_option maxHeartbeats 4000000
/-! K77main (printed by mk77m.py): the law is true. -/
namespace K77
open PySem PySem.Spec PyProof.Rows L2 Pi
theorem rowsD_prod (rs : List Rule) : (prodRows [(daysOf rs).map .int, (accsOf rs).map .str, (amtsOf rs).map .int, (txtsOf rs).map .str]).map D.tup = rowsD rs := rowsN_prod _ _ _ _
theorem mul_nat {m n : Mo} {i : Int} {j : Nat} (h : j ≤ 5000) : mulG (m, .int i) (n, .int (j : Nat)) = some (.fz, .int (i * (j : Nat))) := mul_l (by rw [Bool.and_eq_true, decide_eq_true_eq, decide_eq_true_eq]; constructor <;> omega)
def bIf : Ss := match bflaw with
  | .cons _ (.cons _ (.cons _ (.cons _ r))) => r
  | r => r
def eMany : E := match bflaw with
  | .cons _ (.cons _ (.cons _ (.cons (.set _ _ e) _))) => e
  | _ => .con .non
def sTooMany : Ss := match bIf with
  | .cons (.ite _ a _) _ => a
  | r => r
def eFirsts : E := .lc (.ite (.op (.inn false) (.var 10) (.var 8)) (.ix (.var 6) (.mt .index (.var 8) (.var 10))) (.con .non)) [10] (.nm 10) (.rng (.cons (.bi .len (.cons (.var 2) .nil)) .nil)) .no
theorem bflaw_eq : bflaw = .cons (.set 1 false (.call 0 (.cons (.var 0) (.cons (.con (.int 80)) .nil)))) (.cons (.set 2 false (.call 1 (.cons (.var 1) .nil))) (.cons (.set 3 false (.call 2 (.cons (.var 2) .nil))) (.cons (.set 4 false eMany) bIf))) := by kernel_rfl
theorem bIf_eq : bIf = .cons (.ite (.op (.cm .gt) (.var 4) (.con (.int 5000))) sTooMany bMain) bTail := by kernel_rfl
theorem bMain_eq : bMain = .cons (.set 6 false (.call 5 (.cons (.var 3) .nil))) (.cons (.set 7 false (.call 4 (.cons (.var 2) .nil))) (.cons (.ite (.or (.op (.is false) (.var 7) (.con .non)) (.op .ne (.bi .list (.cons (.var 7) .nil)) (.var 6))) (.cons (.ret (.con (.bl false))) .nil) .nil) (.cons (.set 8 false (.lc (.call 6 (.cons (.var 2) (.cons (.var 16) .nil))) [16] (.nm 16) (.of (.var 6)) .no)) (.cons (.set 9 false (.bi .tuple (.cons eFirsts .nil))) (.cons (.ite (.or (.op .ne (.call 8 (.cons (.var 2) .nil)) (.var 9)) (.op (.is true) (.call 7 (.cons (.var 2) (.cons (.var 9) .nil))) (.con .non))) (.cons (.ret (.con (.bl false))) .nil) .nil) (.cons (.ite (.op (.cm .lt) (.var 4) (.con (.int 700))) bDueAll .nil) (.cons (.for (.nm 10) (.rng (.cons (.con (.int 6)) .nil)) bSix) .nil))))))) := by kernel_rfl
/-- many -/
theorem many_eq (ns ds : List Int) {rs : List Rule} (h : RsU rs) : ev tflaw eMany [some (false, .scr ns), some (false, .lst (ds.map .int)), some (false, rsE rs), some (false, partsE rs (txtsOf rs)), none, none, none, none, none, none, none, none, none, none, none, none, none, none, none, none, none, none, none, none] = .ok (.fz, .int (((daysOf rs).length * (accsOf rs).length * (amtsOf rs).length * (txtsOf rs).length : Nat) : Int)) := by
  obtain ⟨h1, h2, h3, h4⟩ := parts_len h
  have he : eMany = .op .mul (.op .mul (.op .mul (.bi .len (.cons (.ix (.var 3) (.con (.int 0))) .nil)) (.bi .len (.cons (.ix (.var 3) (.con (.int 1))) .nil))) (.bi .len (.cons (.ix (.var 3) (.con (.int 2))) .nil))) (.bi .len (.cons (.ix (.var 3) (.con (.int 3))) .nil)) := by kernel_rfl
  have b0 : ev tflaw (.bi .len (.cons (.ix (.var 3) (.con (.int 0))) .nil)) [some (false, .scr ns), some (false, .lst (ds.map .int)), some (false, rsE rs), some (false, partsE rs (txtsOf rs)), none, none, none, none, none, none, none, none, none, none, none, none, none, none, none, none, none, none, none, none] = .ok (.fz, .int ((daysOf rs).length : Nat)) := by simp [daysOf]
  have b1 : ev tflaw (.bi .len (.cons (.ix (.var 3) (.con (.int 1))) .nil)) [some (false, .scr ns), some (false, .lst (ds.map .int)), some (false, rsE rs), some (false, partsE rs (txtsOf rs)), none, none, none, none, none, none, none, none, none, none, none, none, none, none, none, none, none, none, none, none] = .ok (.fz, .int ((accsOf rs).length : Nat)) := by simp [accsOf]
  have b2 : ev tflaw (.bi .len (.cons (.ix (.var 3) (.con (.int 2))) .nil)) [some (false, .scr ns), some (false, .lst (ds.map .int)), some (false, rsE rs), some (false, partsE rs (txtsOf rs)), none, none, none, none, none, none, none, none, none, none, none, none, none, none, none, none, none, none, none, none] = .ok (.fz, .int ((amtsOf rs).length : Nat)) := by simp [amtsOf]
  have b3 : ev tflaw (.bi .len (.cons (.ix (.var 3) (.con (.int 3))) .nil)) [some (false, .scr ns), some (false, .lst (ds.map .int)), some (false, rsE rs), some (false, partsE rs (txtsOf rs)), none, none, none, none, none, none, none, none, none, none, none, none, none, none, none, none, none, none, none, none] = .ok (.fz, .int ((txtsOf rs).length : Nat)) := by simp
  rw [he, ev_op_of (o := .mul) (ev_op_of (o := .mul) (ev_op_of (o := .mul) b0 b1 (mul_nat (m := .fz) (n := .fz) (by omega))) b2 (mul_nat (m := .fz) (n := .fz) (by omega))) b3 (mul_nat (m := .fz) (n := .fz) (by omega))]
  rw [Int.natCast_mul, Int.natCast_mul, Int.natCast_mul]
theorem pl_rows {rs : List Rule} (h : RsU rs) : (D.lst (rowsD rs)).pl 64 = true := by
  unfold D.pl rowsD
  exact pls_of fun d hd => by
    obtain ⟨s, hs, e⟩ := List.mem_map.mp hd
    rw [← e]; exact pl_enc (samp_dom h s hs) 62
theorem pl_firsts {rs : List Rule} (h : RsU rs) : (D.tup (firstsD rs)).pl 64 = true := by
  unfold D.pl firstsD
  exact pls_of fun d hd => by
    obtain ⟨k, hk, e⟩ := List.mem_map.mp hd
    rw [← e]; exact pl_orE h k 62
section
variable (ns ds : List Int) (MN : Int) {rs : List Rule} (h : RsU rs) (n8 : rs.length ≤ 8)
include h n8
theorem sorts_eq : ev tflaw (.lc (.call 6 (.cons (.var 2) (.cons (.var 16) .nil))) [16] (.nm 16) (.of (.var 6)) .no) [some (false, .scr ns), some (false, .lst (ds.map .int)), some (false, rsE rs), some (false, partsE rs (txtsOf rs)), some (false, .int MN), none, some (false, .lst (rowsD rs)), some (false, .tup (rowsD rs)), none, none, none, none, none, none, none, none, none, none, none, none, none, none, none, none] = .ok (.ow, .lst (sortsD rs)) := by
  have hz := samp_len h
  have hlc : lcK tflaw (.call 6 (.cons (.var 2) (.cons (.var 16) .nil))) [16] (.nm 16) .no [some (false, .scr ns), some (false, .lst (ds.map .int)), some (false, rsE rs), some (false, partsE rs (txtsOf rs)), some (false, .int MN), none, some (false, .lst (rowsD rs)), some (false, .tup (rowsD rs)), none, none, none, none, none, none, none, none, none, none, none, none, none, none, none, none] ((sampOf rs).map Row.enc) = .ok (.ow, .lst ((sampOf rs).map fun r => oiE (firstR rs r))) := by
    have := lcK_at (T := tflaw) (e := .call 6 (.cons (.var 2) (.cons (.var 16) .nil))) (vs := [16]) (tg := .nm 16) (c := .no) (ρ := [some (false, .scr ns), some (false, .lst (ds.map .int)), some (false, rsE rs), some (false, partsE rs (txtsOf rs)), some (false, .int MN), none, some (false, .lst (rowsD rs)), some (false, .tup (rowsD rs)), none, none, none, none, none, none, none, none, none, none, none, none, none, none, none, none]) (enc := Row.enc) (fun _ => true) (fun r => oiE (firstR rs r)) (l := sampOf rs) (by rw [sz_line]; omega) (fun r => by cases firstR rs r <;> rfl) fun r hr => by
      refine ⟨[some (false, .scr ns), some (false, .lst (ds.map .int)), some (false, rsE rs), some (false, partsE rs (txtsOf rs)), some (false, .int MN), none, some (false, .lst (rowsD rs)), some (false, .tup (rowsD rs)), none, none, none, none, none, none, none, none, some (false, r.enc), none, none, none, none, none, none, none], by simp [wipeR, bindT, setR], by simp, fun _ => ?_⟩
      have c := callK_of (T := tflaw) (f := 6) (as := [(.fz, rsE rs), (.fz, r.enc)]) (p := (_, _, f_law_first)) rfl (lfirst_eq rs r h.ok (samp_dom h r hr).ok) rfl
      simp [enc_atom, c, -callK_eq]
    rw [List.filter_eq_self.mpr (fun _ _ => rfl)] at this
    exact this
  rw [ev_lc_of (l := (sampOf rs).map Row.enc) (by simp [rowsD]) hlc]
  unfold sortsD
  rw [List.map_map]
  rfl
theorem firsts_eq : ev tflaw (.bi .tuple (.cons eFirsts .nil)) [some (false, .scr ns), some (false, .lst (ds.map .int)), some (false, rsE rs), some (false, partsE rs (txtsOf rs)), some (false, .int MN), none, some (false, .lst (rowsD rs)), some (false, .tup (rowsD rs)), some (false, .lst (sortsD rs)), none, none, none, none, none, none, none, none, none, none, none, none, none, none, none] = .ok (.fz, .tup (firstsD rs)) := by
  have hz := samp_len h
  have hr := rng_nat .fz (n := rs.length) (by omega)
  have hlc : lcK tflaw (.ite (.op (.inn false) (.var 10) (.var 8)) (.ix (.var 6) (.mt .index (.var 8) (.var 10))) (.con .non)) [10] (.nm 10) .no [some (false, .scr ns), some (false, .lst (ds.map .int)), some (false, rsE rs), some (false, partsE rs (txtsOf rs)), some (false, .int MN), none, some (false, .lst (rowsD rs)), some (false, .tup (rowsD rs)), some (false, .lst (sortsD rs)), none, none, none, none, none, none, none, none, none, none, none, none, none, none, none] ((List.range rs.length).map fun (k : Nat) => .int (k : Nat)) = .ok (.ow, .lst (firstsD rs)) := by
    have := lcK_at (T := tflaw) (e := .ite (.op (.inn false) (.var 10) (.var 8)) (.ix (.var 6) (.mt .index (.var 8) (.var 10))) (.con .non)) (vs := [10]) (tg := .nm 10) (c := .no) (ρ := [some (false, .scr ns), some (false, .lst (ds.map .int)), some (false, rsE rs), some (false, partsE rs (txtsOf rs)), some (false, .int MN), none, some (false, .lst (rowsD rs)), some (false, .tup (rowsD rs)), some (false, .lst (sortsD rs)), none, none, none, none, none, none, none, none, none, none, none, none, none, none, none]) (enc := fun (k : Nat) => .int (k : Nat)) (fun _ => true) (fun k => orE (firstS rs k)) (l := List.range rs.length) (by rw [sz_line, List.length_range]; omega) (fun k => by cases firstS rs k <;> rfl) fun k hk => by
      refine ⟨[some (false, .scr ns), some (false, .lst (ds.map .int)), some (false, rsE rs), some (false, partsE rs (txtsOf rs)), some (false, .int MN), none, some (false, .lst (rowsD rs)), some (false, .tup (rowsD rs)), some (false, .lst (sortsD rs)), none, some (false, .int (k : Nat)), none, none, none, none, none, none, none, none, none, none, none, none, none], by simp [wipeR, bindT, setR], by simp, fun _ => ?_⟩
      have hin := in_oi (m := .fz) (n := .fz) k ((sampOf rs).map (firstR rs)) false
      have hix := index_oi (m := .fz) (n := .fz) k ((sampOf rs).map (firstR rs))
      rw [show ((sampOf rs).map (firstR rs)).map oiE = sortsD rs from rfl] at hin hix
      rw [findIdx_map] at hix
      have hrc : Mt.index.rcv (.lst (sortsD rs)) = true := rfl
      have hmem : (some k ∈ (sampOf rs).map (firstR rs)) ↔ (firstS rs k).isSome = true := by
        unfold firstS
        rw [List.find?_isSome, List.mem_map]
        simp
      cases hf : (sampOf rs).findIdx? (fun r => decide (firstR rs r = some k)) with
      | none =>
        have h1 := findIdx_none hf
        have h2 : firstS rs k = none := h1
        have h3 : decide (some k ∈ (sampOf rs).map (firstR rs)) = false := by
          rw [decide_eq_false_iff_not, hmem, h2]; simp
        rw [h3] at hin
        simp only [Bool.false_eq_true, if_false] at hin
        simp [hin, h2, orE]
      | some j =>
        have h1 := findIdx_get hf
        have h2 : (sampOf rs)[j]? = firstS rs k := h1.1
        have h3 : (sampOf rs)[j]? = some (sampOf rs)[j] := List.getElem?_eq_getElem h1.2
        rw [h3] at h2
        have h4 : decide (some k ∈ (sampOf rs).map (firstR rs)) = true := by
          rw [decide_eq_true_eq, hmem, ← h2]; rfl
        rw [h4] at hin
        simp only [Bool.false_eq_true, if_false] at hin
        rw [hf] at hix
        simp only [Option.map_some] at hix
        have h5 : atI (rowsD rs) (j : Nat) = some (sampOf rs)[j].enc := by rw [Pi.atI_nat, rowsD, List.getElem?_map, h3]; rfl
        rw [← h2]
        simp [hin, hrc, Mt.g, hix, ix_lst elOk_fz, h5, orE]
    rw [List.filter_eq_self.mpr (fun _ _ => rfl)] at this
    exact this
  have hT : tupG (.ow, .lst (firstsD rs)) = some (.fz, .tup (firstsD rs)) := by
    unfold tupG
    simp only
    rw [if_pos (elOk_atoms (by unfold firstsD; exact atoms_map _ (fun k => by cases firstS rs k <;> rfl) _))]
  exact ev_bi_of (b := .tuple) (ev_lc_of (l := (List.range rs.length).map fun (k : Nat) => .int (k : Nat)) (by simp [hr]) hlc) hT
end

theorem main_eq (ns ds : List Int) (MN : Int) {rs : List Rule} (h : RsU rs) (n8 : rs.length ≤ 8) (hne : rs ≠ []) (hds : GoodDs ds) : ∃ v10 v14 v15 v16 v17 v18 v19 v21, exs tflaw xsC bMain [some (false, .scr ns), some (false, .lst (ds.map .int)), some (false, rsE rs), some (false, partsE rs (txtsOf rs)), some (false, .int MN), none, none, none, none, none, none, none, none, none, none, none, none, none, none, none, none, none, none, none] = .ok (.nx [some (false, .scr ns), some (false, .lst (ds.map .int)), some (false, rsE rs), some (false, partsE rs (txtsOf rs)), some (false, .int MN), none, some (false, .lst (rowsD rs)), some (false, .tup (rowsD rs)), some (false, .lst (sortsD rs)), some (false, .tup (firstsD rs)), v10, none, none, none, v14, v15, v16, v17, v18, v19, none, v21, none, none]) := by
  obtain ⟨p1, p2, p3, p4⟩ := parts_len h
  obtain ⟨q1, q2, q3, q4⟩ := parts_ne h
  have hm := many_le h
  have hsm : Small [(daysOf rs).map D.int, (accsOf rs).map D.str, (amtsOf rs).map D.int, (txtsOf rs).map D.str] := small4 (fun e => q1 (List.map_eq_nil_iff.mp e)) (fun e => q2 (List.map_eq_nil_iff.mp e)) (fun e => q3 (List.map_eq_nil_iff.mp e)) (fun e => q4 (List.map_eq_nil_iff.mp e)) (by rw [List.length_map, List.length_map, List.length_map, List.length_map]; omega)
  have hrows := lrows_eq _ hsm
  rw [rowsD_prod] at hrows
  have hrows : f_law_rows [partsE rs (txtsOf rs)] = .ok (.fz, .lst (rowsD rs)) := hrows
  have hsamp := lsamples_eq h n8
  rw [show (sampOf rs).map Row.enc = rowsD rs from rfl] at hsamp
  rw [bMain_eq]
  have c5 : callK tflaw 5 [(.fz, partsE rs (txtsOf rs))] = .ok (.fz, .lst (rowsD rs)) := callK_of (p := (_, _, f_law_rows)) rfl hrows rfl
  have c4 : callK tflaw 4 [(.fz, rsE rs)] = .ok (.fz, .tup (rowsD rs)) := callK_of (p := (_, _, f_law_samples)) rfl hsamp rfl
  have n1 : ∀ m n : Mo, blG true eqD (m, .lst (rowsD rs)) (n, .lst (rowsD rs)) = some (.fz, .bl false) := fun m n => ne_refl (pl_rows h)
  have e1 : exS tflaw xsC (.set 6 false (.call 5 (.cons (.var 3) .nil))) [some (false, .scr ns), some (false, .lst (ds.map .int)), some (false, rsE rs), some (false, partsE rs (txtsOf rs)), some (false, .int MN), none, none, none, none, none, none, none, none, none, none, none, none, none, none, none, none, none, none, none] = .ok (.nx [some (false, .scr ns), some (false, .lst (ds.map .int)), some (false, rsE rs), some (false, partsE rs (txtsOf rs)), some (false, .int MN), none, some (false, .lst (rowsD rs)), none, none, none, none, none, none, none, none, none, none, none, none, none, none, none, none, none]) := by
    refine set_fz ?_ (by simp)
    simp [c5, -callK_eq]
  have e2 : exS tflaw xsC (.set 7 false (.call 4 (.cons (.var 2) .nil))) [some (false, .scr ns), some (false, .lst (ds.map .int)), some (false, rsE rs), some (false, partsE rs (txtsOf rs)), some (false, .int MN), none, some (false, .lst (rowsD rs)), none, none, none, none, none, none, none, none, none, none, none, none, none, none, none, none, none] = .ok (.nx [some (false, .scr ns), some (false, .lst (ds.map .int)), some (false, rsE rs), some (false, partsE rs (txtsOf rs)), some (false, .int MN), none, some (false, .lst (rowsD rs)), some (false, .tup (rowsD rs)), none, none, none, none, none, none, none, none, none, none, none, none, none, none, none, none]) := by
    refine set_fz ?_ (by simp)
    simp [c4, -callK_eq]
  rw [exs_seq e1, exs_seq e2]
  have hL : listG (.fz, .tup (rowsD rs)) = some (lmo (rowsD rs), .lst (rowsD rs)) := rfl
  rw [exs_seq (ρ' := [some (false, .scr ns), some (false, .lst (ds.map .int)), some (false, rsE rs), some (false, partsE rs (txtsOf rs)), some (false, .int MN), none, some (false, .lst (rowsD rs)), some (false, .tup (rowsD rs)), none, none, none, none, none, none, none, none, none, none, none, none, none, none, none, none]) (by simp [hL, n1])]
  rw [exs_seq (ρ' := [some (false, .scr ns), some (false, .lst (ds.map .int)), some (false, rsE rs), some (false, partsE rs (txtsOf rs)), some (false, .int MN), none, some (false, .lst (rowsD rs)), some (false, .tup (rowsD rs)), some (false, .lst (sortsD rs)), none, none, none, none, none, none, none, none, none, none, none, none, none, none, none]) (set_ow (sorts_eq ns ds MN h n8) (by simp))]
  rw [exs_seq (ρ' := [some (false, .scr ns), some (false, .lst (ds.map .int)), some (false, rsE rs), some (false, partsE rs (txtsOf rs)), some (false, .int MN), none, some (false, .lst (rowsD rs)), some (false, .tup (rowsD rs)), some (false, .lst (sortsD rs)), some (false, .tup (firstsD rs)), none, none, none, none, none, none, none, none, none, none, none, none, none, none]) (set_fz (firsts_eq ns ds MN h n8) (by simp))]
  have hfi := first_eq h n8
  have hfa := fault_eq h n8
  rw [show ((List.range rs.length).map fun k => orE (firstS rs k)) = firstsD rs from rfl] at hfi hfa
  have c8 : callK tflaw 8 [(.fz, rsE rs)] = .ok (.fz, .tup (firstsD rs)) := callK_of (p := (_, _, ffirst_samples)) rfl hfi rfl
  have c7 : callK tflaw 7 [(.fz, rsE rs), (.fz, .tup (firstsD rs))] = .ok (.fz, .non) := callK_of (p := (_, _, fsamples_fault)) rfl hfa rfl
  have n2 : ∀ m n : Mo, blG true eqD (m, .tup (firstsD rs)) (n, .tup (firstsD rs)) = some (.fz, .bl false) := fun m n => ne_refl (pl_firsts h)
  rw [exs_seq (ρ' := [some (false, .scr ns), some (false, .lst (ds.map .int)), some (false, rsE rs), some (false, partsE rs (txtsOf rs)), some (false, .int MN), none, some (false, .lst (rowsD rs)), some (false, .tup (rowsD rs)), some (false, .lst (sortsD rs)), some (false, .tup (firstsD rs)), none, none, none, none, none, none, none, none, none, none, none, none, none, none]) (by simp [c8, c7, n2, -callK_eq])]
  -- the law's own rules that can go
  have hdue : ∃ o10 o14 o15 o17 o18 o19 o21, exS tflaw xsC (.ite (.op (.cm .lt) (.var 4) (.con (.int 700))) bDueAll .nil) [some (false, .scr ns), some (false, .lst (ds.map .int)), some (false, rsE rs), some (false, partsE rs (txtsOf rs)), some (false, .int MN), none, some (false, .lst (rowsD rs)), some (false, .tup (rowsD rs)), some (false, .lst (sortsD rs)), some (false, .tup (firstsD rs)), none, none, none, none, none, none, none, none, none, none, none, none, none, none] = .ok (.nx [some (false, .scr ns), some (false, .lst (ds.map .int)), some (false, rsE rs), some (false, partsE rs (txtsOf rs)), some (false, .int MN), none, some (false, .lst (rowsD rs)), some (false, .tup (rowsD rs)), some (false, .lst (sortsD rs)), some (false, .tup (firstsD rs)), o10, none, none, none, o14, o15, none, o17, o18, o19, none, o21, none, none]) := by
    by_cases hlt : MN < 700
    · obtain ⟨o10, o14, o15, o17, o18, o19, o21, e⟩ := dueAll_eq (.scr ns) (.lst (ds.map .int)) (partsE rs (txtsOf rs)) MN h n8 rfl none none none none none none none none none none none none none none none
      refine ⟨o10, o14, o15, o17, o18, o19, o21, ?_⟩
      have hc : ev tflaw (.op (.cm .lt) (.var 4) (.con (.int 700))) [some (false, .scr ns), some (false, .lst (ds.map .int)), some (false, rsE rs), some (false, partsE rs (txtsOf rs)), some (false, .int MN), none, some (false, .lst (rowsD rs)), some (false, .tup (rowsD rs)), some (false, .lst (sortsD rs)), some (false, .tup (firstsD rs)), none, none, none, none, none, none, none, none, none, none, none, none, none, none] = .ok (.fz, .bl true) := by simp [hlt]
      rw [exS_ite, hc, rb_ok, ifK_eq, toB_bl, rb_ok, ifB_eq, if_pos rfl, e]
    · refine ⟨none, none, none, none, none, none, none, ?_⟩
      have hc : ev tflaw (.op (.cm .lt) (.var 4) (.con (.int 700))) [some (false, .scr ns), some (false, .lst (ds.map .int)), some (false, rsE rs), some (false, partsE rs (txtsOf rs)), some (false, .int MN), none, some (false, .lst (rowsD rs)), some (false, .tup (rowsD rs)), some (false, .lst (sortsD rs)), some (false, .tup (firstsD rs)), none, none, none, none, none, none, none, none, none, none, none, none, none, none] = .ok (.fz, .bl false) := by simp [hlt]
      rw [exS_ite, hc, rb_ok, ifK_eq, toB_bl, rb_ok, ifB_eq, if_neg (by decide), exs_nil_s]
  obtain ⟨o10, o14, o15, o17, o18, o19, o21, e⟩ := hdue
  rw [exs_seq e]
  refine for_pre (P := fun R => ∃ v10 v14 v15 v16 v17 v18 v19 v21, R = .ok (.nx [some (false, .scr ns), some (false, .lst (ds.map .int)), some (false, rsE rs), some (false, partsE rs (txtsOf rs)), some (false, .int MN), none, some (false, .lst (rowsD rs)), some (false, .tup (rowsD rs)), some (false, .lst (sortsD rs)), some (false, .tup (firstsD rs)), v10, none, none, none, v14, v15, v16, v17, v18, v19, none, v21, none, none])) (fun p ρ => ∃ v10 v16, ρ = [some (false, .scr ns), some (false, .lst (ds.map .int)), some (false, rsE rs), some (false, partsE rs (txtsOf rs)), some (false, .int MN), none, some (false, .lst (rowsD rs)), some (false, .tup (rowsD rs)), some (false, .lst (sortsD rs)), some (false, .tup (firstsD rs)), v10, none, none, none, o14, o15, v16, o17, o18, o19, none, o21, none, none]) (l := List.range 6) (enc := fun (i : Nat) => .int (i : Nat))
    (by
      have := rng_nat .fz (n := 6) (by decide)
      simp
      exact this) ⟨_, _, rfl⟩ (fun p k post ρ e3 ⟨v10, v16, e4⟩ => ?_) fun ρ ⟨v10, v16, e4⟩ => ?_
  · subst e4
    have hk : k < 6 := List.mem_range.mp (by rw [e3]; simp)
    obtain ⟨o16, e5⟩ := six_eq (.scr ns) (partsE rs (txtsOf rs)) MN h n8 hne hds none none none none none o14 o15 v16 o17 o18 o19 none o21 none none hk
    refine ⟨[some (false, .scr ns), some (false, .lst (ds.map .int)), some (false, rsE rs), some (false, partsE rs (txtsOf rs)), some (false, .int MN), none, some (false, .lst (rowsD rs)), some (false, .tup (rowsD rs)), some (false, .lst (sortsD rs)), some (false, .tup (firstsD rs)), some (false, .int (k : Nat)), none, none, none, o14, o15, v16, o17, o18, o19, none, o21, none, none], by simp [bindT, setR], ?_⟩
    exact Nx.of _ e5 ⟨_, _, rfl⟩
  · subst e4
    exact ⟨v10, o14, o15, v16, o17, o18, o19, o21, by rw [exs_nil_s]⟩
theorem law_true (ns : List Int) (_h : ns.length ≤ 63) : ∃ m, m ≠ .bo ∧ flaw [.scr ns] = .ok (m, .bl true) := by
  refine ⟨.fz, by decide, ?_⟩
  obtain ⟨ds, hds, hd⟩ := ldraws_eq ns
  obtain ⟨rs, h, n8, hne, hrs⟩ := lrules_eq hds
  have hp := lparts_eq rs h.ok h.hu
  have hp : f_law_parts [rsE rs] = .ok (.fz, partsE rs (txtsOf rs)) := hp
  have hm := many_le h
  unfold flaw
  refine runF_of (.ok (.rt .fz (.bl true))) ?_ rfl
  show exs tflaw xsC bflaw [some (false, .scr ns), none, none, none, none, none, none, none, none, none, none, none, none, none, none, none, none, none, none, none, none, none, none, none] = _
  rw [bflaw_eq]
  have c0 : callK tflaw 0 [(.fz, .scr ns), (.fz, .int 80)] = .ok (.ow, .lst (ds.map .int)) := callK_nb (p := (_, _, f_law_draws)) rfl hd (by decide) rfl
  have c1 : callK tflaw 1 [(.fz, .lst (ds.map .int))] = .ok (.fz, rsE rs) := callK_of (p := (_, _, f_law_rules)) rfl hrs rfl
  have c2 : callK tflaw 2 [(.fz, rsE rs)] = .ok (.fz, partsE rs (txtsOf rs)) := callK_of (p := (_, _, f_law_parts)) rfl hp rfl
  rw [exs_seq (ρ' := [some (false, .scr ns), some (false, .lst (ds.map .int)), none, none, none, none, none, none, none, none, none, none, none, none, none, none, none, none, none, none, none, none, none, none]) (by
    refine set_ow ?_ (by simp)
    simp [c0, -callK_eq])]
  rw [exs_seq (ρ' := [some (false, .scr ns), some (false, .lst (ds.map .int)), some (false, rsE rs), none, none, none, none, none, none, none, none, none, none, none, none, none, none, none, none, none, none, none, none, none]) (by
    refine set_fz ?_ (by simp)
    simp [c1, -callK_eq])]
  rw [exs_seq (ρ' := [some (false, .scr ns), some (false, .lst (ds.map .int)), some (false, rsE rs), some (false, partsE rs (txtsOf rs)), none, none, none, none, none, none, none, none, none, none, none, none, none, none, none, none, none, none, none, none]) (by
    refine set_fz ?_ (by simp)
    simp [c2, -callK_eq])]
  rw [exs_seq (set_fz (many_eq ns ds h) (by simp))]
  generalize hMN : (((daysOf rs).length * (accsOf rs).length * (amtsOf rs).length * (txtsOf rs).length : Nat) : Int) = MN
  have hlt : ¬ (5000 : Int) < MN := by omega
  show exs tflaw xsC bIf [some (false, .scr ns), some (false, .lst (ds.map .int)), some (false, rsE rs), some (false, partsE rs (txtsOf rs)), some (false, .int MN), none, none, none, none, none, none, none, none, none, none, none, none, none, none, none, none, none, none, none] = _
  rw [bIf_eq]
  obtain ⟨v10, v14, v15, v16, v17, v18, v19, v21, e⟩ := main_eq ns ds MN h n8 hne hds
  have hc : ev tflaw (.op (.cm .gt) (.var 4) (.con (.int 5000))) [some (false, .scr ns), some (false, .lst (ds.map .int)), some (false, rsE rs), some (false, partsE rs (txtsOf rs)), some (false, .int MN), none, none, none, none, none, none, none, none, none, none, none, none, none, none, none, none, none, none, none] = .ok (.fz, .bl false) := by simp [hlt]
  rw [exs_cons_s, exS_ite, hc, rb_ok, ifK_eq, toB_bl, rb_ok, ifB_eq, if_neg (by decide), e, rb_ok, thenS_nx]
  exact tail_eq _ _ _ _ _ _ _ _ _ _ _ _ _ _ _ _ _ _ _ _ _ _ _ _
end K77

set_option Elab.async false
set_option linter.all false
set_option maxRecDepth 100000
set_option maxHeartbeats 0
namespace K77
open Pi

end K77
open PySem PySem.W PySem.Calls PyProof.Rows
theorem PySem.Challenge.cw_ledgertongue_k77_whole_rules_at_the_ends_holds : PySem.Challenge.rw_ledgertongue_k77_whole_rules_at_the_ends.Holds := by
  w_on; o_law
  refine HandSHeadRun.head_any (r := OpenLaw.row PySem.Challenge.rw_ledgertongue_k77_whole_rules_at_the_ends) (q := K77.qv) (H := K77.hk) (ob := K77.hd.ob 4) (M := 4000) (loose := K77.loose) (d := HandSHeadRun.topDef (OpenLaw.row PySem.Challenge.rw_ledgertongue_k77_whole_rules_at_the_ends).prog 69) (kwd := []) (K77.hd.ob_eq 4)
    (by kernel_rfl) (fun s => by kernel_rfl) K77.run (by kernel_rfl) (by kernel_rfl) (by kernel_rfl) (by rfl) (by first | assumption | decide +kernel) (by decide +kernel) ⟨rfl, rfl, rfl, rfl, rfl, by decide +kernel⟩ ?hw ?hc
  case hw => w_witness2
  case hc =>
    exact Pi.law_end (l := PySem.Challenge.rw_ledgertongue_k77_whole_rules_at_the_ends) (h := K77.hd) (N := 4) (k := 10) (j := 46) (x := "script") (y := "law") (fdef := K77.top 69) (F := K77.flaw) rfl (by kernel_rfl) ⟨rfl, by decide, by decide⟩ (by kernel_rfl) rfl K77.bslaw
      (fun w K hp mg base c X G fd F => K77.fklaw c X G fd F) K77.law_true
