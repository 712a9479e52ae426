import PyProof.Rows.All
import Wide.All
import OpenK.AllK
import Wide.FinOn
import HandS.ForMost
import HandS.Lambda
import HandS.ExcValue
import HandS.ExcInit
import KE.SortData
import KE.KDictKeyed
import KE.DataIsa
import KE.DataMinMax
import KE.LtData
import KE.DataFind
import HandS.Wide
import HandS.TupAny
import HandS.Style
import HandS.RaiseMore
import HandS.StrMore
import PyProof.ReprRoads
import HandS.Star
import HandS.Text
import HandS.Defaults
import HandS.Iter
import HandS.Zip
import HandS.Comp
import HandS.HeadHook2
import PyProof.ExcBaseAll.ValueError
import HandS.ExcIs
import HandS.ExcSuper
import KE.KExcSuper
import HandS.MakeKwOnly
import HandS.ExcField
import HandS.HeadEnd
import HandS.EndBits
import HandS.Head2
import HandS.HeadWalk
import PySem.Challenge.RW_cavesweep_k26_new_errors
set_option Elab.async false
set_option linter.all false
set_option maxRecDepth 100000
set_option maxHeartbeats 2000000
namespace Mi
open PySem PySem.Spec PyProof.Rows L2
structure Ct where
  P : Program
  w : World
  K : PySem.W.Frag
  ca : Nat → Addr
  cf : Nat → List Str
  xa : Nat → Addr
  fa : Nat → Addr
  T : List (Addr × Str)
inductive F where
  | d (p : PyData)
  | l (xs : List F)
  | t (xs : List F)
  | i (c : Nat) (fs : List F)
  | fn (n : Nat)
  | x (c : Nat) (p : Option Int)
  | s (ns : List Int)
inductive O where
  | f (x : F)
  | w (ps : List PyData)
  | l (xs : List F)
  | i (c : Nat) (os : List O)
abbrev O.p (p : PyData) : O := .f (.d p)
abbrev Env := List (Option O)
structure Ex where
  c : Nat
  p : Option Int
mutual
inductive Rep (K : PySem.W.Frag) (G : Hp) : V → PyData → Prop
  | non : Rep K G .non .none
  | bl (b : Bool) : Rep K G (.bl b) (.bool b)
  | int (i : Int) : Rep K G (.int i) (.int i)
  | str (x : Str) : Rep K G (.str x) (.str x)
  | lst {a : Addr} {vs : List V} {ps : List PyData} : G a = some (.lst vs) → RepL K G vs ps → Rep K G (.ref a) (.list ps)
  | emp {a : Addr} : G a = some (.dK []) → Rep K G (.ref a) (.dict [])
  | tup {a : Addr} {vs : List V} {ps : List PyData} : SqT K G a vs → RepL K G vs ps → Rep K G (.ref a) (.tuple ps)
inductive RepL (K : PySem.W.Frag) (G : Hp) : List V → List PyData → Prop
  | nil : RepL K G [] []
  | cons {v : V} {vs : List V} {p : PyData} {ps : List PyData} : Rep K G v p → RepL K G vs ps → RepL K G (v :: vs) (p :: ps)
end
mutual
inductive RF (C : Ct) (G : Hp) : V → F → Prop
  | d {v : V} {p : PyData} : Rep C.K G v p → RF C G v (.d p)
  | l {a : Addr} {vs : List V} {xs : List F} : G a = some (.lst vs) → RFs C G vs xs → RF C G (.ref a) (.l xs)
  | t {a : Addr} {vs : List V} {xs : List F} : G a = some (.tup vs) → RFs C G vs xs → RF C G (.ref a) (.t xs)
  | i {a dx : Addr} {c : Nat} {vs : List V} {xs : List F} : G a = some (.ins (C.ca c) dx ((C.cf c).zip vs)) → G dx = some (.own a) → vs.length ≤ (C.cf c).length → RFs C G vs xs → RF C G (.ref a) (.i c xs)
  | fn (n : Nat) : RF C G (.ref (C.fa n)) (.fn n)
  | s {a : Addr} {ns : List Int} : SqL C.K G a (ns.map V.int) → RF C G (.ref a) (.s ns)
  | x {a : Addr} {c : Nat} : G a = some (ExO (.ref (C.xa c)) a) → RF C G (.ref a) (.x c none)
  | xp {a dx : Addr} {c : Nat} {i : Int} : G a = some (exo a (C.xa c) (some dx)) → G dx = some (exd dx [("index", .int i)]) → RF C G (.ref a) (.x c (some i))
inductive RFs (C : Ct) (G : Hp) : List V → List F → Prop
  | nil : RFs C G [] []
  | cons {v : V} {vs : List V} {x : F} {xs : List F} : RF C G v x → RFs C G vs xs → RFs C G (v :: vs) (x :: xs)
end
mutual
inductive RO (C : Ct) (G H : Hp) : V → O → List Addr → Prop
  | f {v : V} {x : F} : RF C G v x → RO C G H v (.f x) []
  | w {a : Addr} {vs : List V} {ps : List PyData} : H a = some (.lst vs) → RepL C.K G vs ps → RO C G H (.ref a) (.w ps) [a]
  | l {a : Addr} {vs : List V} {xs : List F} : H a = some (.lst vs) → RFs C G vs xs → RO C G H (.ref a) (.l xs) [a]
  | i {a dx : Addr} {c : Nat} {vs : List V} {os : List O} {fp : List Addr} : H a = some (.ins (C.ca c) dx ((C.cf c).zip vs)) → H dx = some (.own a) → vs.length ≤ (C.cf c).length → ROs C G H vs os fp → RO C G H (.ref a) (.i c os) (a :: dx :: fp)
inductive ROs (C : Ct) (G H : Hp) : List V → List O → List Addr → Prop
  | nil : ROs C G H [] [] []
  | cons {v : V} {vs : List V} {x : O} {xs : List O} {f g : List Addr} : RO C G H v x f → ROs C G H vs xs g → ROs C G H (v :: vs) (x :: xs) (f ++ g)
end
inductive RE (C : Ct) (G H : Hp) : L2.St → Env → List Addr → Prop
  | nil : RE C G H [] [] []
  | no {v : Option V} {σ : L2.St} {env : Env} {g : List Addr} : RE C G H σ env g → RE C G H (v :: σ) (none :: env) g
  | so {v : V} {o : O} {σ : L2.St} {env : Env} {f g : List Addr} : RO C G H v o f → RE C G H σ env g → RE C G H (some v :: σ) (some o :: env) (f ++ g)
def Nt (u : HO) : Prop := ∀ ps, u ≠ .tbl ps
structure Ok (C : Ct) (G H : Hp) (fp : List Addr) : Prop where
  sub : ∀ a u, G a = some u → H a = some u
  gt : ∀ a u, G a = some u → Nt u
  nd : fp.Nodup
  ds : ∀ a ∈ fp, G a = none
  tb : LamX.Tabs C.T H
structure Mv (G H : Hp) (fp : List Addr) (G' H' : Hp) (fq : List Addr) : Prop where
  gs : ∀ a u, G a = some u → G' a = some u
  fz : ∀ a u, G' a = some u → G a = some u ∨ a ∈ fp ∨ H a = none
  fr : ∀ a u, H a = some u → a ∉ fp → Nt u → H' a = some u
  nw : ∀ a ∈ fq, a ∈ fp ∨ H a = none
  th : ∀ a, H' a = none → H a = none
theorem sql_sub {K : PySem.W.Frag} {G G' : Hp} (h : ∀ a u, G a = some u → G' a = some u) {a : Addr} {xs : List V} (x : SqL K G a xs) : SqL K G' a xs := by
  rcases x with (x | ⟨o, x⟩) | x
  · exact .inl (.inl (h _ _ x))
  · exact .inl (.inr ⟨o, h _ _ x⟩)
  · exact .inr x
theorem sqt_sub {K : PySem.W.Frag} {G G' : Hp} (h : ∀ a u, G a = some u → G' a = some u) {a : Addr} {xs : List V} (x : SqT K G a xs) : SqT K G' a xs := by
  rcases x with (x | ⟨o, x⟩) | x
  · exact .inl (.inl (h _ _ x))
  · exact .inl (.inr ⟨o, h _ _ x⟩)
  · exact .inr x
section
variable {K : PySem.W.Frag} {G G' : Hp} (h : ∀ a u, G a = some u → G' a = some u)
include h
mutual
theorem Rep.sub : ∀ {p : PyData} {v : V}, Rep K G v p → Rep K G' v p
  | _, _, .non => .non
  | _, _, .bl b => .bl b
  | _, _, .int i => .int i
  | _, _, .str x => .str x
  | _, _, .lst a b => .lst (h _ _ a) (RepL.sub b)
  | _, _, .emp a => .emp (h _ _ a)
  | _, _, .tup a b => .tup (sqt_sub h a) (RepL.sub b)
theorem RepL.sub : ∀ {ps : List PyData} {vs : List V}, RepL K G vs ps → RepL K G' vs ps
  | _, _, .nil => .nil
  | _, _, .cons a b => .cons (Rep.sub a) (RepL.sub b)
end
end
section
variable {C : Ct} {G G' : Hp} (h : ∀ a u, G a = some u → G' a = some u)
include h
mutual
theorem RF.sub : ∀ {p : F} {v : V}, RF C G v p → RF C G' v p
  | _, _, .d x => .d (x.sub h)
  | _, _, .l a b => .l (h _ _ a) (RFs.sub b)
  | _, _, .t a b => .t (h _ _ a) (RFs.sub b)
  | _, _, .i a b c d => .i (h _ _ a) (h _ _ b) c (RFs.sub d)
  | _, _, .fn n => .fn n
  | _, _, .s a => .s (sql_sub h a)
  | _, _, .x a => .x (h _ _ a)
  | _, _, .xp a b => .xp (h _ _ a) (h _ _ b)
theorem RFs.sub : ∀ {ps : List F} {vs : List V}, RFs C G vs ps → RFs C G' vs ps
  | _, _, .nil => .nil
  | _, _, .cons a b => .cons (RF.sub a) (RFs.sub b)
end
end
section
variable {C : Ct} {G H G' H' : Hp}
mutual
theorem RO.mv (hg : ∀ a u, G a = some u → G' a = some u) : ∀ {o : O} {v : V} {fp : List Addr}, RO C G H v o fp → (∀ a ∈ fp, ∀ u, H a = some u → Nt u → H' a = some u) → RO C G' H' v o fp
  | _, _, _, .f x, _ => .f (x.sub hg)
  | _, _, _, .w a b, k => .w (k _ (by simp) _ a (fun _ z => by cases z)) (b.sub hg)
  | _, _, _, .l a b, k => .l (k _ (by simp) _ a (fun _ z => by cases z)) (b.sub hg)
  | _, _, _, .i a b c d, k => .i (k _ (by simp) _ a (fun _ z => by cases z)) (k _ (by simp) _ b (fun _ z => by cases z)) c (ROs.mv hg d fun a ha => k a (by simp [ha]))
theorem ROs.mv (hg : ∀ a u, G a = some u → G' a = some u) : ∀ {os : List O} {vs : List V} {fp : List Addr}, ROs C G H vs os fp → (∀ a ∈ fp, ∀ u, H a = some u → Nt u → H' a = some u) → ROs C G' H' vs os fp
  | _, _, _, .nil, _ => .nil
  | _, _, _, .cons a b, k => .cons (RO.mv hg a fun x hx => k x (List.mem_append_left _ hx)) (ROs.mv hg b fun x hx => k x (List.mem_append_right _ hx))
end
mutual
theorem RO.own : ∀ {o : O} {v : V} {fp : List Addr}, RO C G H v o fp → ∀ a ∈ fp, ∃ u, H a = some u ∧ Nt u
  | _, _, _, .f _, a, ha => nomatch ha
  | _, _, _, .w h _, a, ha => by
    rw [List.mem_singleton.mp ha]; exact ⟨_, h, fun _ z => by cases z⟩
  | _, _, _, .l h _, a, ha => by
    rw [List.mem_singleton.mp ha]; exact ⟨_, h, fun _ z => by cases z⟩
  | _, _, _, .i h1 h2 _ h3, a, ha => by
    rcases List.mem_cons.mp ha with e | ha
    · rw [e]; exact ⟨_, h1, fun _ z => by cases z⟩
    · rcases List.mem_cons.mp ha with e | ha
      · rw [e]; exact ⟨_, h2, fun _ z => by cases z⟩
      · exact ROs.own h3 a ha
theorem ROs.own : ∀ {os : List O} {vs : List V} {fp : List Addr}, ROs C G H vs os fp → ∀ a ∈ fp, ∃ u, H a = some u ∧ Nt u
  | _, _, _, .nil, a, ha => nomatch ha
  | _, _, _, .cons x y, a, ha => by
    rcases List.mem_append.mp ha with z | z
    · exact RO.own x a z
    · exact ROs.own y a z
end
theorem RE.mv (hg : ∀ a u, G a = some u → G' a = some u) : ∀ {env : Env} {σ : L2.St} {fp : List Addr}, RE C G H σ env fp → (∀ a ∈ fp, ∀ u, H a = some u → Nt u → H' a = some u) → RE C G' H' σ env fp
  | _, _, _, .nil, _ => .nil
  | _, _, _, .no a, k => .no (RE.mv hg a k)
  | _, _, _, .so a b, k => .so (RO.mv hg a fun x hx => k x (List.mem_append_left _ hx)) (RE.mv hg b fun x hx => k x (List.mem_append_right _ hx))
theorem RE.own : ∀ {env : Env} {σ : L2.St} {fp : List Addr}, RE C G H σ env fp → ∀ a ∈ fp, ∃ u, H a = some u ∧ Nt u
  | _, _, _, .nil, a, ha => nomatch ha
  | _, _, _, .no b, a, ha => RE.own b a ha
  | _, _, _, .so x y, a, ha => by
    rcases List.mem_append.mp ha with z | z
    · exact RO.own x a z
    · exact RE.own y a z
theorem RE.length : ∀ {env : Env} {σ : L2.St} {fp : List Addr}, RE C G H σ env fp → σ.length = env.length
  | _, _, _, .nil => rfl
  | _, _, _, .no b => by simp [RE.length b]
  | _, _, _, .so _ b => by simp [RE.length b]
theorem RE.get : ∀ {env : Env} {σ : L2.St} {fp : List Addr} {i : Nat} {o : O}, RE C G H σ env fp → env[i]? = some (some o) →
    ∃ v f1 f f2, σ[i]? = some (some v) ∧ fp = f1 ++ (f ++ f2) ∧ RO C G H v o f ∧
      ∀ {G' H' : Hp} {v' : Option V} {o' : Option O} {f' : List Addr}, (∀ a u, G a = some u → G' a = some u) → (∀ a, a ∈ f1 ∨ a ∈ f2 → ∀ u, H a = some u → Nt u → H' a = some u) →
        ((o' = none ∧ f' = []) ∨ ∃ x y, o' = some y ∧ v' = some x ∧ RO C G' H' x y f') → RE C G' H' (σ.set i v') (env.set i o') (f1 ++ (f' ++ f2))
  | _, _, _, i, _, .nil, e => by simp at e
  | _, _, _, 0, _, .no b, e => by simp at e
  | _, _, _, 0, o, .so (v := v) (o := o₁) (f := f) (g := g) a b, e => by
    simp at e
    subst e
    refine ⟨v, [], f, g, rfl, rfl, a, fun {G' H' v' o' f'} hg hk h => ?_⟩
    rcases h with ⟨h, h'⟩ | ⟨x, y, h1, h2, h3⟩
    · subst h h'
      exact RE.no (RE.mv hg b fun a ha => hk a (.inr ha))
    · subst h1 h2
      exact (RE.so h3 (RE.mv hg b fun a ha => hk a (.inr ha)) : RE C G' H' _ _ (f' ++ g))
  | _, _, _, i + 1, o, .no (v := v) b, e => by
    obtain ⟨w, f1, f, f2, h1, h2, h3, h4⟩ := RE.get b (by simpa using e)
    exact ⟨w, f1, f, f2, by simpa using h1, h2, h3, fun hg hk h => .no (h4 hg hk h)⟩
  | _, _, _, i + 1, o, .so (v := v) (f := f0) a b, e => by
    obtain ⟨w, f1, f, f2, h1, h2, h3, h4⟩ := RE.get b (by simpa using e)
    refine ⟨w, f0 ++ f1, f, f2, by simpa using h1, by rw [h2]; simp, h3, fun {G' H' v' o' f'} hg hk h => ?_⟩
    have q := RE.so (RO.mv (H' := H') hg a fun x hx => hk x (.inl (List.mem_append_left _ hx))) (h4 hg (fun x hx => hk x (hx.imp (fun z => List.mem_append_right _ z) id)) h)
    rw [List.append_assoc]
    exact q
end
section
variable {C : Ct} {G H G1 H1 G2 H2 : Hp} {fp fv fq fr : List Addr}
theorem Mv.refl : Mv G H fp G H fp := ⟨fun _ _ h => h, fun _ _ h => .inl h, fun _ _ h _ _ => h, fun _ h => .inl h, fun _ h => h⟩
theorem Mv.weak (m : Mv G H fp G1 H1 fq) (h : ∀ a ∈ fv, a ∈ fq) : Mv G H fp G1 H1 fv := ⟨m.gs, m.fz, m.fr, fun a ha => m.nw a (h a ha), m.th⟩
theorem Mv.seq (m : Mv G H fp G1 H1 (fv ++ fq)) (n : Mv G1 H1 fq G2 H2 fr) : Mv G H fp G2 H2 (fv ++ fr) := by
  refine ⟨fun a u h => n.gs a u (m.gs a u h), fun a u h => ?_, fun a u h hf hn => ?_, fun a ha => ?_, fun a h => m.th a (n.th a h)⟩
  · rcases n.fz a u h with y | y | y
    · exact m.fz a u y
    · exact .inr (m.nw a (List.mem_append_right _ y))
    · exact .inr (.inr (m.th a y))
  · refine n.fr a u (m.fr a u h hf hn) (fun z => ?_) hn
    rcases m.nw a (List.mem_append_right _ z) with y | y
    · exact hf y
    · rw [h] at y; cases y
  · rcases List.mem_append.mp ha with y | y
    · exact m.nw a (List.mem_append_left _ y)
    · rcases n.nw a y with z | z
      · exact m.nw a (List.mem_append_right _ z)
      · exact .inr (m.th a z)
theorem Ok.seq (ok : Ok C G1 H1 (fv ++ fq)) (n : Mv G1 H1 fq G2 H2 fr) (ok2 : Ok C G2 H2 fr) (hv : ∀ a ∈ fv, ∃ u, H1 a = some u ∧ Nt u) : Ok C G2 H2 (fv ++ fr) := by
  have dj : ∀ a ∈ fv, a ∉ fq := fun a h z => (List.nodup_append.mp ok.nd).2.2 a h a z rfl
  refine ⟨ok2.sub, ok2.gt, List.nodup_append.mpr ⟨(List.nodup_append.mp ok.nd).1, ok2.nd, fun a ha b hb e => ?_⟩, fun a ha => ?_, ok2.tb⟩
  · subst e
    rcases n.nw a hb with z | z
    · exact dj a ha z
    · obtain ⟨u, h, _⟩ := hv a ha
      rw [h] at z; cases z
  · rcases List.mem_append.mp ha with y | y
    · cases q : G2 a with
      | none => rfl
      | some u =>
        rcases n.fz a u q with z | z | z
        · rw [ok.ds a (List.mem_append_left _ y)] at z; cases z
        · exact absurd z (dj a y)
        · obtain ⟨x, h, _⟩ := hv a y
          rw [h] at z; cases z
    · exact ok2.ds a y
theorem RO.aside {v : V} {o : O} (x : RO C G1 H1 v o fv) (ok : Ok C G1 H1 (fv ++ fq)) (n : Mv G1 H1 fq G2 H2 fr) : RO C G2 H2 v o fv :=
  x.mv n.gs fun a ha u h hn => n.fr a u h (fun z => (List.nodup_append.mp ok.nd).2.2 a ha a z rfl) hn
theorem ROs.aside {v : List V} {o : List O} (x : ROs C G1 H1 v o fv) (ok : Ok C G1 H1 (fv ++ fq)) (n : Mv G1 H1 fq G2 H2 fr) : ROs C G2 H2 v o fv :=
  x.mv n.gs fun a ha u h hn => n.fr a u h (fun z => (List.nodup_append.mp ok.nd).2.2 a ha a z rfl) hn
end
structure Ad (G H G' H' : Hp) (fv : List Addr) : Prop where
  gs : ∀ a u, G a = some u → G' a = some u
  hs : ∀ a u, H a = some u → H' a = some u
  fz : ∀ a u, G' a = some u → G a = some u ∨ H a = none
  nw : ∀ a ∈ fv, H a = none
  sub : ∀ a u, G' a = some u → H' a = some u
  gt : ∀ a u, G' a = some u → Nt u
  nd : fv.Nodup
  ds : ∀ a ∈ fv, G' a = none
  th : ∀ a ∈ fv, H' a ≠ none
section
variable {C : Ct} {G H G1 H1 G2 H2 : Hp} {fp fv fq fr : List Addr}
theorem Ad.mv (d : Ad G H G1 H1 fv) : Mv G H fp G1 H1 (fv ++ fp) := by
  refine ⟨d.gs, fun a u h => ?_, fun a u h _ _ => d.hs a u h, fun a ha => ?_, fun a h => ?_⟩
  · rcases d.fz a u h with z | z
    · exact .inl z
    · exact .inr (.inr z)
  · rcases List.mem_append.mp ha with z | z
    · exact .inr (d.nw a z)
    · exact .inl z
  · cases q : H a with
    | none => rfl
    | some u => rw [d.hs a u q] at h; cases h
theorem tabs_same {T : List (Addr × Str)} (h : LamX.Tabs T H) (e : ∀ a u, H a = some u → H1 a = some u) : LamX.Tabs T H1 := h.ext e
theorem Ad.ok (d : Ad G H G1 H1 fv) (ok : Ok C G H fp) (hp : ∀ a ∈ fp, H a ≠ none) : Ok C G1 H1 (fv ++ fp) := by
  refine ⟨d.sub, d.gt, List.nodup_append.mpr ⟨d.nd, ok.nd, fun a ha b hb e => ?_⟩, fun a ha => ?_, tabs_same ok.tb d.hs⟩
  · subst e
    exact hp a hb (d.nw a ha)
  · rcases List.mem_append.mp ha with z | z
    · exact d.ds a z
    · cases q : G1 a with
      | none => rfl
      | some u =>
        rcases d.fz a u q with y | y
        · rw [ok.ds a z] at y; cases y
        · exact absurd y (hp a z)
theorem Ad.refl (ok : Ok C G H fp) : Ad G H G H [] := ⟨fun _ _ h => h, fun _ _ h => h, fun _ _ h => .inl h, (fun _ h => nomatch h), ok.sub, ok.gt, List.nodup_nil, (fun _ h => nomatch h), (fun _ h => nomatch h)⟩
theorem upd_of {H : Hp} {p a : Addr} {o u : HO} (hp : H p = none) (h : H a = some u) : upd H p o a = some u := by
  rw [upd_ne (ne_of_none h hp)]; exact h
theorem Ad.still {a : Addr} {u : HO} (ok : Ok C G H fp) (h : H a = none) (hn : Nt u) : Ad G H (upd G a u) (upd H a u) [] := by
  have hg : G a = none := by
    cases q : G a with
    | none => rfl
    | some x => rw [ok.sub a x q] at h; cases h
  refine ⟨fun b x q => upd_of hg q, fun b x q => upd_of h q, fun b x q => ?_, (fun _ z => nomatch z), fun b x q => ?_, fun b x q => ?_, List.nodup_nil, (fun _ z => nomatch z), (fun _ z => nomatch z)⟩
  · by_cases e : b = a
    · subst e; exact .inr h
    · rw [upd_ne e] at q; exact .inl q
  · by_cases e : b = a
    · subst e; rw [upd_same] at q ⊢; exact q
    · rw [upd_ne e] at q ⊢; exact ok.sub b x q
  · by_cases e : b = a
    · subst e; rw [upd_same] at q; cases q; exact hn
    · rw [upd_ne e] at q; exact ok.gt b x q
theorem Ad.own {a : Addr} {u : HO} (ok : Ok C G H fp) (h : H a = none) : Ad G H G (upd H a u) [a] := by
  have hg : G a = none := by
    cases q : G a with
    | none => rfl
    | some x => rw [ok.sub a x q] at h; cases h
  refine ⟨fun b x q => q, fun b x q => upd_of h q, fun b x q => .inl q, fun b z => ?_, fun b x q => upd_of h (ok.sub b x q), ok.gt, by simp, fun b z => ?_, fun b z => ?_⟩
  · rw [List.mem_singleton.mp z]; exact h
  · rw [List.mem_singleton.mp z]; exact hg
  · rw [List.mem_singleton.mp z, upd_same]; simp
theorem Ad.seq (d : Ad G H G1 H1 fv) (e : Ad G1 H1 G2 H2 fq) : Ad G H G2 H2 (fv ++ fq) := by
  have tH : ∀ a, H1 a = none → H a = none := fun a h => by
    cases q : H a with
    | none => rfl
    | some u => rw [d.hs a u q] at h; cases h
  refine ⟨fun a u h => e.gs a u (d.gs a u h), fun a u h => e.hs a u (d.hs a u h), fun a u h => ?_, fun a ha => ?_, e.sub, e.gt, List.nodup_append.mpr ⟨d.nd, e.nd, fun a ha b hb z => ?_⟩, fun a ha => ?_, fun a ha => ?_⟩
  · rcases e.fz a u h with z | z
    · exact d.fz a u z
    · exact .inr (tH a z)
  · rcases List.mem_append.mp ha with z | z
    · exact d.nw a z
    · exact tH a (e.nw a z)
  · subst z
    exact d.th a ha (e.nw a hb)
  · rcases List.mem_append.mp ha with z | z
    · cases q : G2 a with
      | none => rfl
      | some u =>
        rcases e.fz a u q with y | y
        · rw [d.ds a z] at y; cases y
        · exact absurd y (d.th a z)
    · exact e.ds a z
  · rcases List.mem_append.mp ha with z | z
    · cases q : H1 a with
      | none => exact absurd q (d.th a z)
      | some u => rw [e.hs a u q]; simp
    · exact e.th a z
theorem RO.ad {v : V} {o : O} (x : RO C G H v o fp) (d : Ad G H G1 H1 fv) : RO C G1 H1 v o fp := x.mv d.gs fun a _ u h _ => d.hs a u h
theorem RE.ad {σ : L2.St} {env : Env} (x : RE C G H σ env fp) (d : Ad G H G1 H1 fv) : RE C G1 H1 σ env fp := x.mv d.gs fun a _ u h _ => d.hs a u h
end
def still (G H : Hp) (f : List Addr) : Hp := fun a => if a ∈ f then H a else G a
section
variable {C : Ct} {G H : Hp} {f fp : List Addr}
theorem still_in {a : Addr} (h : a ∈ f) : still G H f a = H a := if_pos h
theorem still_out {a : Addr} (h : a ∉ f) : still G H f a = G a := if_neg h
theorem still_sub (hd : ∀ a ∈ f, G a = none) (a : Addr) (u : HO) (h : G a = some u) : still G H f a = some u := by
  rw [still_out fun z => by rw [hd a z] at h; cases h]; exact h
theorem Mv.still (ok : Ok C G H (f ++ fp)) : Mv G H (f ++ fp) (still G H f) H fp := by
  refine ⟨still_sub fun a h => ok.ds a (List.mem_append_left _ h), fun a u h => ?_, fun a u h _ _ => h, fun a h => .inl (List.mem_append_right _ h), fun a h => h⟩
  by_cases q : a ∈ f
  · exact .inr (.inl (List.mem_append_left _ q))
  · rw [still_out q] at h; exact .inl h
theorem Ok.still (ok : Ok C G H (f ++ fp)) (hf : ∀ a ∈ f, ∃ u, H a = some u ∧ Nt u) : Ok C (still G H f) H fp := by
  have nd := List.nodup_append.mp ok.nd
  refine ⟨fun a u h => ?_, fun a u h => ?_, nd.2.1, fun a ha => ?_, ok.tb⟩
  · by_cases q : a ∈ f
    · rw [still_in q] at h; exact h
    · rw [still_out q] at h; exact ok.sub a u h
  · by_cases q : a ∈ f
    · rw [still_in q] at h
      obtain ⟨x, h1, h2⟩ := hf a q
      rw [h] at h1; cases h1
      exact h2
    · rw [still_out q] at h; exact ok.gt a u h
  · rw [still_out fun z => nd.2.2 a z a ha rfl]
    exact ok.ds a (List.mem_append_right _ ha)
end
mutual
def O.fz : O → F
  | .f x => x
  | .w ps => .d (.list ps)
  | .l xs => .l xs
  | .i c os => .i c (O.fzs os)
def O.fzs : List O → List F
  | [] => []
  | o :: os => o.fz :: O.fzs os
end
def O.py : O → Option PyData
  | .f (.d p) => some p
  | .w ps => some (.list ps)
  | _ => none
section
variable {C : Ct} {G H G' : Hp}
mutual
theorem RO.fz (hs : ∀ a u, G a = some u → G' a = some u) : ∀ {o : O} {v : V} {f : List Addr}, RO C G H v o f → (∀ a ∈ f, G' a = H a) → RF C G' v o.fz
  | _, _, _, .f x, _ => x.sub hs
  | _, _, _, .w a b, k => .d (.lst ((k _ (by simp)).trans a) (b.sub hs))
  | _, _, _, .l a b, k => .l ((k _ (by simp)).trans a) (b.sub hs)
  | _, _, _, .i a b c d, k => .i ((k _ (by simp)).trans a) ((k _ (by simp)).trans b) c (ROs.fz hs d fun x hx => k x (by simp [hx]))
theorem ROs.fz (hs : ∀ a u, G a = some u → G' a = some u) : ∀ {os : List O} {vs : List V} {f : List Addr}, ROs C G H vs os f → (∀ a ∈ f, G' a = H a) → RFs C G' vs (O.fzs os)
  | _, _, _, .nil, _ => .nil
  | _, _, _, .cons a b, k => .cons (RO.fz hs a fun x hx => k x (List.mem_append_left _ hx)) (ROs.fz hs b fun x hx => k x (List.mem_append_right _ hx))
end
theorem RO.py {v : V} {o : O} {f : List Addr} {p : PyData} (x : RO C G H v o f) (hs : ∀ a u, G a = some u → H a = some u) (e : o.py = some p) : Rep C.K H v p := by
  cases x with
  | f x =>
    cases x with
    | d x => cases e; exact x.sub hs
    | l _ _ => cases e
    | t _ _ => cases e
    | i _ _ _ _ => cases e
    | fn _ => cases e
    | x _ => cases e
    | xp _ _ => cases e
    | s _ => cases e
  | w a b => cases e; exact .lst a (b.sub hs)
  | l _ _ => cases e
  | i _ _ _ _ => cases e
end
end Mi
set_option Elab.async false
set_option linter.all false
set_option maxRecDepth 100000
set_option maxHeartbeats 2000000
namespace Mi
open PySem PySem.Spec PyProof.Rows L2
inductive R (α : Type) where
  | ok (a : α) (e : Env)
  | ex (x : Ex) (e : Env)
abbrev M (α : Type) := Env → Option (R α)
def RX (C : Ct) (x : Ex) (cls : Value) (d : Option Addr) (H : Hp) : Prop :=
  cls = .ref (C.xa x.c) ∧ match x.p with
    | none => d = none
    | some i => ∃ dd, d = some dd ∧ H dd = some (.xd [(("index" : Str), .int i)])
def Kv (C : Ct) (σ : L2.St) (G H : Hp) (fp : List Addr) (Q : VK) (o : O) (e : Env) : Prop :=
  ∀ (G' H' : Hp) (v : V) (fv fq : List Addr), Mv G H fp G' H' (fv ++ fq) → Ok C G' H' (fv ++ fq) → RE C G' H' σ e fq → RO C G' H' v o fv → Q v H'
def Kx (C : Ct) (W : WX) (σ : L2.St) (G H : Hp) (fp : List Addr) (x : Ex) (e : Env) : Prop :=
  ∀ (G' H' : Hp) (fq : List Addr) (cls : Value) (d : Option Addr), Mv G H fp G' H' fq → Ok C G' H' fq → RE C G' H' σ e fq → RX C x cls d H' → W cls d σ H'
def Kr (C : Ct) (W : WX) (σ : L2.St) (G H : Hp) (fp : List Addr) {α : Type} (K : α → Env → Prop) : Option (R α) → Prop
  | none => False
  | some (.ok a e) => K a e
  | some (.ex x e) => Kx C W σ G H fp x e
def te (C : Ct) (W : WX) (m : M O) : TE := fun σ H Q => ∃ (G : Hp) (fp : List Addr) (env : Env), Ok C G H fp ∧ RE C G H σ env fp ∧ Kr C W σ G H fp (Kv C σ G H fp Q) (m env)
inductive Lz where
  | loc (i : Nat)
  | fld (i k : Nat)
  | val (x : F)
def Lz.get (env : Env) : Lz → Option O
  | .loc i => env[i]?.join
  | .fld i k => match env[i]? with
    | some (some (.i _ os)) => os[k]?
    | _ => none
  | .val x => some (.f x)
inductive LzR (C : Ct) (G H : Hp) (σ : L2.St) : V → Lz → Prop
  | loc {i : Nat} {v : V} : σ[i]? = some (some v) → LzR C G H σ v (.loc i)
  | fld {i k : Nat} {a c dx : Addr} {fs : List (Str × V)} {v : V} {n : Str} : σ[i]? = some (some (.ref a)) → H a = some (.ins c dx fs) → fs[k]? = some (n, v) → LzR C G H σ v (.fld i k)
  | val {v : V} {x : F} : RF C G v x → LzR C G H σ v (.val x)
inductive LzRs (C : Ct) (G H : Hp) (σ : L2.St) : List V → List Lz → Prop
  | nil : LzRs C G H σ [] []
  | cons {v : V} {vs : List V} {l : Lz} {ls : List Lz} : LzR C G H σ v l → LzRs C G H σ vs ls → LzRs C G H σ (v :: vs) (l :: ls)
inductive Opd where
  | loc (i : Nat)
  | fld (i k : Nat)
  | e (m : M O)
def Opd.calm : Opd → Bool
  | .e _ => false
  | _ => true
def rMap {α β : Type} (f : α → β) : Option (R α) → Option (R β)
  | some (.ok a e) => some (.ok (f a) e)
  | some (.ex x e) => some (.ex x e)
  | none => none
def mArgs : List Opd → M (List Lz)
  | [], env => some (.ok [] env)
  | .loc i :: as, env => match env[i]? with
    | some (some _) => rMap (Lz.loc i :: ·) (mArgs as env)
    | _ => none
  | .fld i k :: as, env => match env[i]? with
    | some (some (.i _ os)) => if as.all Opd.calm && decide (k < os.length) then rMap (Lz.fld i k :: ·) (mArgs as env) else none
    | _ => none
  | .e m :: as, env => match m env with
    | some (.ok o e) => rMap (Lz.val o.fz :: ·) (mArgs as e)
    | some (.ex x e) => some (.ex x e)
    | none => none
def tFld1 (i k : Nat) : TE := fun σ H Q => ∃ a c dx fs n v, σ[i]? = some (some (.ref a)) ∧ H a = some (.ins c dx fs) ∧ fs[k]? = some (n, v) ∧ Q v H
def tO (C : Ct) (W : WX) : Opd → TE
  | .loc i => tVar i
  | .fld i k => tFld1 i k
  | .e m => te C W m
def tAs (C : Ct) (W : WX) : List Opd → TA
  | [] => tNil
  | a :: as => tCons (tO C W a) (tAs C W as)
section
variable {C : Ct} {W : WX} {σ : L2.St} {G H : Hp} {fp : List Addr} {env : Env}
theorem zip_get {α β : Type} : ∀ {as : List α} {bs : List β} {k : Nat} {b : β}, bs.length ≤ as.length → bs[k]? = some b → ∃ a, (as.zip bs)[k]? = some (a, b)
  | [], [], _, _, _, e => by simp at e
  | [], _ :: _, _, _, h, _ => by simp at h
  | _ :: _, [], _, _, _, e => by simp at e
  | a :: as, c :: bs, 0, b, _, e => by simp at e; subst e; exact ⟨a, by simp⟩
  | a :: as, c :: bs, k + 1, b, h, e => by
    obtain ⟨x, hx⟩ := zip_get (as := as) (bs := bs) (k := k) (by simpa using h) (by simpa using e)
    exact ⟨x, by simpa using hx⟩
theorem ROs.at : ∀ {os : List O} {vs : List V} {f : List Addr} {k : Nat}, ROs C G H vs os f → k < os.length → ∃ v o f', vs[k]? = some v ∧ os[k]? = some o ∧ RO C G H v o f' ∧ ∀ a ∈ f', a ∈ f
  | _, _, _, k, .nil, h => by simp at h
  | _, _, _, 0, .cons a b, h => ⟨_, _, _, rfl, rfl, a, fun x hx => List.mem_append_left _ hx⟩
  | _, _, _, k + 1, .cons a b, h => by
    obtain ⟨v, o, f', h1, h2, h3, h4⟩ := ROs.at (k := k) b (by simpa using h)
    exact ⟨v, o, f', by simpa using h1, by simpa using h2, h3, fun x hx => List.mem_append_right _ (h4 x hx)⟩
theorem ROs.length : ∀ {os : List O} {vs : List V} {f : List Addr}, ROs C G H vs os f → vs.length = os.length
  | _, _, _, .nil => rfl
  | _, _, _, .cons _ b => by simp [ROs.length b]
theorem LzR.get {v : V} {l : Lz} {o : O} (h : LzR C G H σ v l) (re : RE C G H σ env fp) (e : l.get env = some o) : ∃ f, RO C G H v o f ∧ ∀ a ∈ f, a ∈ fp := by
  cases h with
  | @loc i v hv =>
    have e1 : env[i]?.join = some o := e
    have e2 : env[i]? = some (some o) := by
      cases q : env[i]? with
      | none => rw [q] at e1; cases e1
      | some x => rw [q] at e1; cases x with
        | none => cases e1
        | some y => cases e1; rfl
    obtain ⟨v', f1, f, f2, h1, h2, h3, _⟩ := re.get e2
    rw [hv] at h1; cases h1
    exact ⟨f, h3, fun a ha => by rw [h2]; simp [ha]⟩
  | @fld i k a c dx fs v n hv ha hk =>
    have e1 : (match env[i]? with | some (some (.i _ os)) => os[k]? | _ => none) = some o := e
    cases q : env[i]? with
    | none => rw [q] at e1; cases e1
    | some x =>
      rw [q] at e1
      cases x with
      | none => cases e1
      | some y =>
        cases y with
        | i c os =>
          have e1 : os[k]? = some o := e1
          obtain ⟨v', f1, f, f2, h1, h2, h3, _⟩ := re.get q
          rw [hv] at h1; cases h1
          cases h3 with
          | i b1 b2 b3 b4 =>
            rw [ha] at b1
            cases b1
            have hk2 : k < os.length := (List.getElem?_eq_some_iff.mp e1).1
            obtain ⟨w, o', f', g1, g2, g3, g4⟩ := b4.at hk2
            rw [e1] at g2; cases g2
            obtain ⟨n', hn'⟩ := zip_get b3 g1
            rw [hk] at hn'; cases hn'
            exact ⟨f', g3, fun x hx => by rw [h2]; simp [g4 x hx]⟩
        | f _ => cases e1
        | w _ => cases e1
        | l _ => cases e1
  | val h => cases e; exact ⟨[], .f h, (fun _ z => nomatch z)⟩
theorem LzR.calm {v : V} {l : Lz} {G' : Hp} (h : LzR C G H σ v l) (hs : ∀ a u, G a = some u → G' a = some u) : LzR C G' H σ v l := by
  cases h with
  | loc h => exact .loc h
  | fld a b c => exact .fld a b c
  | val h => exact .val (h.sub hs)
def Ka (C : Ct) (σ : L2.St) (G H : Hp) (fp : List Addr) (Q : List V → Hp → Prop) (ls : List Lz) (e : Env) : Prop :=
  ∀ (G' H' : Hp) (vs : List V) (fq : List Addr), Mv G H fp G' H' fq → Ok C G' H' fq → RE C G' H' σ e fq → LzRs C G' H' σ vs ls → Q vs H'
theorem calm_run : ∀ {as : List Opd} {r : Option (R (List Lz))} {Q : List V → Hp → Prop}, as.all Opd.calm = true → RE C G H σ env fp → mArgs as env = r → (∀ ls vs, r = some (.ok ls env) → LzRs C G H σ vs ls → Q vs H) → r ≠ none → tAs C W as σ H Q
  | [], r, Q, _, _, e, h, _ => h [] [] e.symm .nil
  | .loc i :: as, r, Q, hc, re, e, h, hn => by
    have e : (match env[i]? with | some (some _) => rMap (Lz.loc i :: ·) (mArgs as env) | _ => none) = r := e
    cases q : env[i]? with
    | none => rw [q] at e; exact absurd e.symm hn
    | some x =>
      cases x with
      | none => rw [q] at e; exact absurd e.symm hn
      | some o =>
        rw [q] at e
        have e : rMap (Lz.loc i :: ·) (mArgs as env) = r := e
        obtain ⟨v, _, _, _, h1, _⟩ := re.get q
        refine ⟨v, h1, calm_run (r := mArgs as env) (by simpa [Opd.calm] using hc) re rfl (fun ls vs e2 hl => ?_) (fun e2 => ?_)⟩
        · rw [e2] at e
          exact h _ (v :: vs) e.symm (.cons (.loc h1) hl)
        · rw [e2] at e; exact hn e.symm
  | .fld i k :: as, r, Q, hc, re, e, h, hn => by
    have e : (match env[i]? with | some (some (.i _ os)) => if as.all Opd.calm && decide (k < os.length) then rMap (Lz.fld i k :: ·) (mArgs as env) else none | _ => none) = r := e
    cases q : env[i]? with
    | none => rw [q] at e; exact absurd e.symm hn
    | some x =>
      cases x with
      | none => rw [q] at e; exact absurd e.symm hn
      | some o =>
        rw [q] at e
        cases o with
        | i c os =>
          have e : (if as.all Opd.calm && decide (k < os.length) then rMap (Lz.fld i k :: ·) (mArgs as env) else none) = r := e
          by_cases hk : (as.all Opd.calm && decide (k < os.length)) = true
          · rw [if_pos hk] at e
            simp only [Bool.and_eq_true, decide_eq_true_eq] at hk
            obtain ⟨v, _, _, _, h1, _, h3, _⟩ := re.get q
            cases h3 with
            | i b1 b2 b3 b4 =>
              obtain ⟨w, o', f', g1, g2, g3, g4⟩ := b4.at hk.2
              obtain ⟨n', hn'⟩ := zip_get b3 g1
              refine ⟨_, _, _, _, n', w, h1, b1, hn', calm_run (r := mArgs as env) hk.1 re rfl (fun ls vs e2 hl => ?_) (fun e2 => ?_)⟩
              · rw [e2] at e
                exact h _ (w :: vs) e.symm (.cons (.fld h1 b1 hn') hl)
              · rw [e2] at e; exact hn e.symm
          · rw [if_neg hk] at e; exact absurd e.symm hn
        | f _ => exact absurd e.symm hn
        | w _ => exact absurd e.symm hn
        | l _ => exact absurd e.symm hn
  | .e m :: as, r, Q, hc, _, _, _, _ => by simp [Opd.calm] at hc
theorem mArgs_calm : ∀ {as : List Opd} {env : Env} {r : R (List Lz)}, as.all Opd.calm = true → mArgs as env = some r → ∃ ls, r = .ok ls env
  | [], env, r, _, e => by cases e; exact ⟨_, rfl⟩
  | .loc i :: as, env, r, hc, e => by
    have e : (match env[i]? with | some (some _) => rMap (Lz.loc i :: ·) (mArgs as env) | _ => none) = some r := e
    split at e
    · cases q : mArgs as env with
      | none => rw [q] at e; cases e
      | some z =>
        obtain ⟨ls, rfl⟩ := mArgs_calm (as := as) (by simpa [Opd.calm] using hc) q
        rw [q] at e; cases e
        exact ⟨_, rfl⟩
    · cases e
  | .fld i k :: as, env, r, hc, e => by
    have e : (match env[i]? with | some (some (.i _ os)) => if as.all Opd.calm && decide (k < os.length) then rMap (Lz.fld i k :: ·) (mArgs as env) else none | _ => none) = some r := e
    split at e
    · split at e
      · cases q : mArgs as env with
        | none => rw [q] at e; cases e
        | some z =>
          obtain ⟨ls, rfl⟩ := mArgs_calm (as := as) (by simpa [Opd.calm] using hc) q
          rw [q] at e; cases e
          exact ⟨_, rfl⟩
      · cases e
    · cases e
  | .e m :: as, env, r, hc, _ => by simp [Opd.calm] at hc
theorem args_run : ∀ {as : List Opd} {G H : Hp} {fp : List Addr} {env : Env} {Q : List V → Hp → Prop}, Ok C G H fp → RE C G H σ env fp →
    Kr C W σ G H fp (Ka C σ G H fp Q) (mArgs as env) → tAs C W as σ H Q
  | [], G, H, fp, env, Q, ok, re, h => h G H [] fp .refl ok re .nil
  | .loc i :: as, G, H, fp, env, Q, ok, re, h => by
    have e : mArgs (.loc i :: as) env = (match env[i]? with | some (some _) => rMap (Lz.loc i :: ·) (mArgs as env) | _ => none) := rfl
    rw [e] at h
    cases q : env[i]? with
    | none => rw [q] at h; exact (show False from h).elim
    | some x =>
      cases x with
      | none => rw [q] at h; exact (show False from h).elim
      | some o =>
        rw [q] at h
        obtain ⟨v, _, _, _, h1, _⟩ := re.get q
        refine ⟨v, h1, args_run (as := as) ok re ?_⟩
        have h : Kr C W σ G H fp (Ka C σ G H fp Q) (rMap (Lz.loc i :: ·) (mArgs as env)) := h
        cases r : mArgs as env with
        | none => rw [r] at h; exact h
        | some z =>
          rw [r] at h
          cases z with
          | ok ls e => exact fun G' H' vs fq m o r l => h G' H' (v :: vs) fq m o r (.cons (.loc h1) l)
          | ex x e => exact h
  | .fld i k :: as, G, H, fp, env, Q, ok, re, h => by
    have e : mArgs (.fld i k :: as) env = (match env[i]? with | some (some (.i _ os)) => if as.all Opd.calm && decide (k < os.length) then rMap (Lz.fld i k :: ·) (mArgs as env) else none | _ => none) := rfl
    have hc : (Opd.fld i k :: as).all Opd.calm = true := by
      cases q : mArgs (.fld i k :: as) env with
      | none => rw [q] at h; exact (show False from h).elim
      | some z =>
        rw [q] at e
        split at e
        · split at e
          · rename_i hk
            simp only [Bool.and_eq_true] at hk
            simpa [Opd.calm] using hk.1
          · cases e
        · cases e
    refine calm_run (r := mArgs (.fld i k :: as) env) hc re rfl (fun ls vs e2 hl => ?_) (fun e2 => ?_)
    · rw [e2] at h
      exact h G H vs fp .refl ok re hl
    · rw [e2] at h; exact h
  | .e m :: as, G, H, fp, env, Q, ok, re, h => by
    have e : mArgs (.e m :: as) env = (match m env with | some (.ok o e) => rMap (Lz.val o.fz :: ·) (mArgs as e) | some (.ex x e) => some (.ex x e) | none => none) := rfl
    rw [e] at h
    refine ⟨G, fp, env, ok, re, ?_⟩
    cases q : m env with
    | none => rw [q] at h; exact h
    | some z =>
      rw [q] at h
      cases z with
      | ex x e => exact h
      | ok o e =>
        intro G1 H1 v fv f1 m1 ok1 re1 ro1
        have ds : ∀ a ∈ fv, G1 a = none := fun a ha => ok1.ds a (List.mem_append_left _ ha)
        have m2 : Mv G H fp (still G1 H1 fv) H1 f1 := Mv.seq (fv := []) m1 (Mv.still ok1)
        have ok2 := ok1.still ro1.own
        have re2 : RE C (still G1 H1 fv) H1 σ e f1 := re1.mv (still_sub ds) fun _ _ _ h _ => h
        have rf2 : RF C (still G1 H1 fv) v o.fz := ro1.fz (still_sub ds) fun a ha => still_in ha
        refine args_run (as := as) ok2 re2 ?_
        have h : Kr C W σ G H fp (Ka C σ G H fp Q) (rMap (Lz.val o.fz :: ·) (mArgs as e)) := h
        cases r : mArgs as e with
        | none => rw [r] at h; exact h
        | some z =>
          rw [r] at h
          cases z with
          | ok ls e' => exact fun G' H' vs fq m o r l => h G' H' (v :: vs) fq (Mv.seq (fv := []) m2 m) o r (.cons (.val (rf2.sub m.gs)) l)
          | ex x e' => exact fun G' H' fq cls d m o r x => h G' H' fq cls d (Mv.seq (fv := []) m2 m) o r x
end
end Mi
set_option Elab.async false
set_option linter.all false
set_option maxRecDepth 100000
set_option maxHeartbeats 2000000
namespace Mi
open PySem PySem.Spec PyProof.Rows L2
theorem _root_.L2.PE.imp {X : Cx} {e : Expr} {t u : TE} (h : PE X e t) (k : ∀ σ H Q, u σ H Q → t σ H Q) : PE X e u := ⟨fun pins s σ H Q I q => h.run pins s σ H Q I (k σ H Q q)⟩
theorem _root_.L2.PT.imp {X : Cx} {e : Expr} {t u : TT} (h : PT X e t) (k : ∀ σ H Q, u σ H Q → t σ H Q) : PT X e u := ⟨fun pins s σ H Q I q => h.run pins s σ H Q I (k σ H Q q)⟩
theorem _root_.L2.PW.imp {X : Cx} {e : Expr} {t u : TT} (h : PW X e t) (k : ∀ σ H Q, u σ H Q → t σ H Q) : PW X e u := ⟨fun w pins s σ H Q I q => h.run w pins s σ H Q I (k σ H Q q)⟩
theorem _root_.L2.PS.imp {X : Cx} {e : Stmt} {t u : TS} (h : PS X e t) (k : ∀ D σ H, u D σ H → t D σ H) : PS X e u := ⟨fun pins s σ H D I q => h.run pins s σ H D I (k D σ H q)⟩
theorem _root_.L2.PSs.imp {X : Cx} {e : List Stmt} {t u : TS} (h : PSs X e t) (k : ∀ D σ H, u D σ H → t D σ H) : PSs X e u := ⟨fun pins s σ H D I q => h.run pins s σ H D I (k D σ H q)⟩
section
variable {C : Ct} {W : WX} {σ : L2.St} {G H G' H' : Hp} {fp fq : List Addr} {env : Env}
theorem RE.nn (re : RE C G H σ env fp) : ∀ a ∈ fp, H a ≠ none := fun a ha z => by
  obtain ⟨u, h, _⟩ := re.own a ha
  rw [h] at z; cases z
def mOpd (a : Opd) : M Lz := fun env => match mArgs [a] env with
  | some (.ok [l] e) => some (.ok l e)
  | some (.ex x e) => some (.ex x e)
  | _ => none
def Kl (C : Ct) (σ : L2.St) (G H : Hp) (fp : List Addr) (Q : V → Hp → Prop) (l : Lz) (e : Env) : Prop :=
  ∀ (G' H' : Hp) (v : V) (fq : List Addr), Mv G H fp G' H' fq → Ok C G' H' fq → RE C G' H' σ e fq → LzR C G' H' σ v l → Q v H'
theorem rMap_none {α β : Type} {f : α → β} {r : Option (R α)} (h : rMap f r = none) : r = none := by
  cases r with
  | none => rfl
  | some z => cases z <;> cases h
theorem mOpd_loc (i : Nat) (env : Env) : mOpd (.loc i) env = (match env[i]? with | some (some _) => some (.ok (.loc i) env) | _ => none) := by
  unfold mOpd
  show (match ((match env[i]? with | some (some _) => rMap (Lz.loc i :: ·) (some (R.ok [] env)) | _ => none) : Option (R (List Lz))) with | some (.ok [l] e) => some (R.ok l e) | some (.ex x e) => some (.ex x e) | _ => none) = _
  cases q : env[i]? with
  | none => rfl
  | some z => cases z <;> rfl
theorem mOpd_e (m : M O) (env : Env) : mOpd (.e m) env = (match m env with | some (.ok o e) => some (.ok (.val o.fz) e) | some (.ex x e) => some (.ex x e) | none => none) := by
  unfold mOpd
  show (match ((match m env with | some (.ok o e) => rMap (Lz.val o.fz :: ·) (some (R.ok [] e)) | some (.ex x e) => some (.ex x e) | none => none) : Option (R (List Lz))) with | some (.ok [l] e) => some (R.ok l e) | some (.ex x e) => some (.ex x e) | _ => none) = _
  cases q : m env with
  | none => rfl
  | some z => cases z <;> rfl
theorem mArgs_one (a : Opd) (env : Env) : mArgs [a] env = rMap (fun l => [l]) (mOpd a env) := by
  unfold mOpd
  cases q : mArgs [a] env with
  | none => rfl
  | some z =>
    cases z with
    | ex x e => rfl
    | ok ls e =>
      have : ∃ l, ls = [l] := by
        cases a with
        | loc i =>
          have q : (match env[i]? with | some (some _) => rMap (Lz.loc i :: ·) (some (R.ok [] env)) | _ => none) = some (R.ok ls e) := q
          split at q
          · cases q; exact ⟨_, rfl⟩
          · cases q
        | fld i k =>
          have q : (match env[i]? with | some (some (.i _ os)) => if ([] : List Opd).all Opd.calm && decide (k < os.length) then rMap (Lz.fld i k :: ·) (some (R.ok [] env)) else none | _ => none) = some (R.ok ls e) := q
          split at q
          · split at q
            · cases q; exact ⟨_, rfl⟩
            · cases q
          · cases q
        | e m =>
          have q : (match m env with | some (.ok o e) => rMap (Lz.val o.fz :: ·) (some (R.ok [] e)) | some (.ex x e) => some (.ex x e) | none => none) = some (R.ok ls e) := q
          split at q
          · cases q; exact ⟨_, rfl⟩
          · cases q
          · cases q
      obtain ⟨l, rfl⟩ := this
      rfl
theorem opd_run {a : Opd} {Q : V → Hp → Prop} (ok : Ok C G H fp) (re : RE C G H σ env fp)
    (h : Kr C W σ G H fp (Kl C σ G H fp Q) (mOpd a env)) : tO C W a σ H Q := by
  have : tAs C W [a] σ H (fun vs H' => ∃ v, vs = [v] ∧ Q v H') := by
    refine args_run ok re ?_
    rw [mArgs_one]
    cases q : mOpd a env with
    | none => rw [q] at h; exact h
    | some z =>
      rw [q] at h
      cases z with
      | ex x e => exact h
      | ok l e =>
        intro G' H' vs fq m o r l
        cases l with
        | cons l1 l2 => cases l2; exact ⟨_, rfl, h G' H' _ fq m o r l1⟩
  have z : tO C W a σ H (fun x H1 => ∃ v, [x] = [v] ∧ Q v H1) := this
  cases a with
  | loc i =>
    obtain ⟨v, h1, w, e, q⟩ := z
    cases e
    exact ⟨v, h1, q⟩
  | fld i k =>
    obtain ⟨a, c, dx, fs, n, v, h1, h2, h3, w, e, q⟩ := z
    cases e
    exact ⟨a, c, dx, fs, n, v, h1, h2, h3, q⟩
  | e m =>
    obtain ⟨G1, fp1, env1, o1, r1, z⟩ := z
    refine ⟨G1, fp1, env1, o1, r1, ?_⟩
    cases q : m env1 with
    | none => rw [q] at z; exact (show False from z).elim
    | some y =>
      rw [q] at z
      cases y with
      | ex x e => exact z
      | ok o e =>
        intro G' H' v fv fq a b c d
        obtain ⟨w, e, q⟩ := z G' H' v fv fq a b c d
        cases e
        exact q
def Lz.firm : Lz → Bool
  | .fld _ _ => false
  | _ => true
theorem LzR.mv {v : V} {l : Lz} (h : LzR C G H σ v l) (hf : l.firm = true) (hs : ∀ a u, G a = some u → G' a = some u) : LzR C G' H' σ v l := by
  cases h with
  | loc h => exact .loc h
  | fld a b c => cases hf
  | val h => exact .val (h.sub hs)
inductive RAs (C : Ct) (G H : Hp) (fp : List Addr) : List V → List O → Prop
  | nil : RAs C G H fp [] []
  | cons {v : V} {o : O} {f : List Addr} {vs : List V} {os : List O} : RO C G H v o f → (∀ a ∈ f, a ∈ fp) → RAs C G H fp vs os → RAs C G H fp (v :: vs) (o :: os)
def rOf (C : Ct) (g : List O → Option O) : List V → Hp → VK → Prop := fun vs H Q => ∃ (G : Hp) (fp : List Addr) (os : List O), Ok C G H fp ∧ (∀ a ∈ fp, H a ≠ none) ∧ RAs C G H fp vs os ∧
  match g os with
  | none => False
  | some o => ∀ (G' H' : Hp) (v : V) (fv : List Addr), Ad G H G' H' fv → RO C G' H' v o fv → Q v H'
def lzGets (env : Env) : List Lz → Option (List O)
  | [] => some []
  | l :: ls => match l.get env, lzGets env ls with
    | some o, some os => some (o :: os)
    | _, _ => none
theorem gets_ok : ∀ {ls : List Lz} {vs : List V} {os : List O}, LzRs C G H σ vs ls → RE C G H σ env fp → lzGets env ls = some os → RAs C G H fp vs os
  | _, _, _, .nil, _, e => by cases e; exact .nil
  | _, _, _, .cons (l := l) (ls := ls) a b, re, e => by
    have e : (match l.get env, lzGets env ls with | some o, some os => some (o :: os) | _, _ => none) = some _ := e
    cases q1 : l.get env with
    | none => rw [q1] at e; cases e
    | some o =>
      cases q2 : lzGets env ls with
      | none => rw [q1, q2] at e; cases e
      | some os =>
        rw [q1, q2] at e
        cases e
        obtain ⟨f, h1, h2⟩ := a.get re q1
        exact .cons h1 h2 (gets_ok b re q2)
def mAp (g : List O → Option O) (as : List Opd) : M O := fun env => match mArgs as env with
  | some (.ok ls e) => (match lzGets e ls with
    | some os => (match g os with
      | some o => some (.ok o e)
      | none => none)
    | none => none)
  | some (.ex x e) => some (.ex x e)
  | none => none
theorem ap_end {g : List O → Option O} {ls : List Lz} {vs : List V} {Q : VK} (ok : Ok C G H fp) (re : RE C G H σ env fp) (l : LzRs C G H σ vs ls)
    (h : match lzGets env ls with
      | none => False
      | some os => (match g os with
        | none => False
        | some o => Kv C σ G H fp Q o env)) : rOf C g vs H Q := by
  cases q : lzGets env ls with
  | none => rw [q] at h; exact h.elim
  | some os =>
    rw [q] at h
    refine ⟨G, fp, os, ok, re.nn, gets_ok l re q, ?_⟩
    cases q2 : g os with
    | none => simp only [q2] at h
    | some o =>
      simp only [q2] at h
      exact fun G' H' v fv ad ro => h G' H' v fv fp ad.mv (ad.ok ok re.nn) (re.ad ad) ro
theorem Kv.seq {Q : VK} {o : O} {e : Env} (h : Kv C σ G H fp Q o e) (m : Mv G H fp G' H' fq) : Kv C σ G' H' fq Q o e := fun G2 H2 v fv fr m2 ok re ro => h G2 H2 v fv fr (Mv.seq (fv := []) m m2) ok re ro
theorem Kx.seq {x : Ex} {e : Env} (h : Kx C W σ G H fp x e) (m : Mv G H fp G' H' fq) : Kx C W σ G' H' fq x e := fun G2 H2 fr cls d m2 ok re rx => h G2 H2 fr cls d (Mv.seq (fv := []) m m2) ok re rx
theorem ap_run {g : List O → Option O} {as : List Opd} {Q : VK} (h : te C W (mAp g as) σ H Q) : tAs C W as σ H (fun vs H' => rOf C g vs H' Q) := by
  obtain ⟨G, fp, env, ok, re, h⟩ := h
  refine args_run ok re ?_
  unfold mAp at h
  cases q : mArgs as env with
  | none => rw [q] at h; exact h
  | some z =>
    rw [q] at h
    cases z with
    | ex x e => exact h
    | ok ls e =>
      intro G' H' vs fq m o r l
      refine ap_end o r l ?_
      dsimp only at h
      cases q1 : lzGets e ls with
      | none => simp only [q1] at h; exact (show False from h).elim
      | some os =>
        simp only [q1] at h
        cases q2 : g os with
        | none => simp only [q2] at h; exact (show False from h).elim
        | some o =>
          simp only [q2] at h
          show (match g os with | none => False | some o => Kv C σ G' H' fq Q o e)
          rw [q2]
          exact h.seq m
end
section
variable {X : Cx} {C : Ct} {W : WX} {a b c e : Expr} {es : List Expr} {pos p : Pos} {oa ob oc : Opd} {as : List Opd} {g : List O → Option O}
def mC (p : PyData) : M O := fun env => some (.ok (.p p) env)
theorem te_val {σ : L2.St} {H : Hp} {Q : VK} {v : V} {p : PyData} (h : te C W (mC p) σ H Q) (r : ∀ G, Rep C.K G v p) : Q v H := by
  obtain ⟨G, fp, env, ok, re, h⟩ := h
  exact h G H v [] fp .refl ok re (.f (.d (r G)))
theorem pm_int {i : Int} {j} : PE X (.Constant (.int i) j pos) (te C W (mC (.int i))) := pe_int.imp fun _ _ _ h => te_val h fun _ => .int i
theorem pm_bl {x : Bool} {j} : PE X (.Constant (.bool x) j pos) (te C W (mC (.bool x))) := pe_bl.imp fun _ _ _ h => te_val h fun _ => .bl x
theorem pm_non {j} : PE X (.Constant .none j pos) (te C W (mC .none)) := pe_non.imp fun _ _ _ h => te_val h fun _ => .non
theorem pm_str {x : Str} {j} : PE X (.Constant (.str x) j pos) (te C W (mC (.str x))) := pe_str.imp fun _ _ _ h => te_val h fun _ => .str x
def mTake (i : Nat) : M O := fun env => match env[i]? with
  | some (some (.f x)) => some (.ok (.f x) env)
  | some (some o) => some (.ok (.f o.fz) (env.set i (some (.f o.fz))))
  | _ => none
theorem mTake_at (i : Nat) (env : Env) : mTake i env = match env[i]? with
    | some (some o) => some (.ok (.f o.fz) (env.set i (some (.f o.fz))))
    | _ => none := by
  unfold mTake
  cases q : env[i]? with
  | none => rfl
  | some z =>
    cases z with
    | none => rfl
    | some o =>
      cases o with
      | f x =>
        have : env.set i (some (.f x)) = env := by
          rw [List.getElem?_eq_some_iff] at q
          obtain ⟨_, e⟩ := q
          conv => lhs; rw [← e]
          exact List.set_getElem_self _
        show some (R.ok (O.f x) env) = some (R.ok (O.f x) (env.set i (some (.f x))))
        rw [this]
      | w _ => rfl
      | l _ => rfl
      | i _ _ => rfl
theorem take_run {σ : L2.St} {H : Hp} {Q : VK} {i : Nat} (h : te C W (mTake i) σ H Q) : tVar i σ H Q := by
  obtain ⟨G, fp, env, ok, re, h⟩ := h
  rw [mTake_at] at h
  cases q : env[i]? with
  | none => rw [q] at h; exact (show False from h).elim
  | some z =>
    rw [q] at h
    cases z with
    | none => exact (show False from h).elim
    | some o =>
      dsimp only at h
      obtain ⟨v, f1, f, f2, h1, h2, h3, h4⟩ := re.get q
      have hi : i < σ.length := (List.getElem?_eq_some_iff.mp h1).1
      have mem : ∀ a, a ∈ fp ↔ a ∈ f ++ (f1 ++ f2) := fun a => by rw [h2]; simp only [List.mem_append]; constructor <;> (rintro (x | x | x) <;> simp [x])
      have ok' : Ok C G H (f ++ (f1 ++ f2)) := ⟨ok.sub, ok.gt, by
        have := ok.nd
        rw [h2] at this
        exact (List.Perm.nodup_iff (by
          rw [← List.append_assoc, ← List.append_assoc]
          exact List.Perm.append_right f2 List.perm_append_comm)).mp this, fun a ha => ok.ds a ((mem a).mpr ha), ok.tb⟩
      have ds : ∀ a ∈ f, G a = none := fun a ha => ok'.ds a (List.mem_append_left _ ha)
      have m1 : Mv G H fp (still G H f) H (f1 ++ f2) := by
        have := Mv.still ok'
        exact ⟨this.gs, fun a u h => (this.fz a u h).imp_right fun z => z.imp_left (mem a).mpr, fun a u h n t => this.fr a u h (fun z => n ((mem a).mpr z)) t, fun a h => (this.nw a h).imp_left (mem a).mpr, this.th⟩
      have rf := h3.fz (still_sub ds) fun a ha => still_in ha
      have re' : RE C (still G H f) H (σ.set i (some v)) (env.set i (some (.f o.fz))) (f1 ++ ([] ++ f2)) := h4 (still_sub ds) (fun a _ u h _ => h) (.inr ⟨v, _, rfl, rfl, .f rf⟩)
      have es : σ.set i (some v) = σ := by
        rw [List.getElem?_eq_some_iff] at h1
        obtain ⟨_, e⟩ := h1
        conv => lhs; rw [← e]
        exact List.set_getElem_self _
      rw [es] at re'
      exact ⟨v, h1, h (still G H f) H v [] (f1 ++ f2) m1 (ok'.still h3.own) re' (.f rf)⟩
def mMove (i : Nat) : M O := fun env => match env[i]? with
  | some (some o) => some (.ok o (env.set i none))
  | _ => none
theorem move_run {σ : L2.St} {H : Hp} {Q : VK} {i : Nat} (h : te C W (mMove i) σ H Q) : tVar i σ H Q := by
  obtain ⟨G, fp, env, ok, re, h⟩ := h
  unfold mMove at h
  cases q : env[i]? with
  | none => rw [q] at h; exact (show False from h).elim
  | some z =>
    rw [q] at h
    cases z with
    | none => exact (show False from h).elim
    | some o =>
      dsimp only at h
      obtain ⟨v, f1, f, f2, h1, h2, h3, h4⟩ := re.get q
      have mem : ∀ a, a ∈ fp ↔ a ∈ f ++ (f1 ++ f2) := fun a => by rw [h2]; simp only [List.mem_append]; constructor <;> (rintro (x | x | x) <;> simp [x])
      have ok' : Ok C G H (f ++ (f1 ++ f2)) := ⟨ok.sub, ok.gt, by
        have := ok.nd
        rw [h2] at this
        exact (List.Perm.nodup_iff (by
          rw [← List.append_assoc, ← List.append_assoc]
          exact List.Perm.append_right f2 List.perm_append_comm)).mp this, fun a ha => ok.ds a ((mem a).mpr ha), ok.tb⟩
      have m1 : Mv G H fp G H (f ++ (f1 ++ f2)) := ⟨fun _ _ h => h, fun _ _ h => .inl h, fun _ _ h _ _ => h, fun a h => .inl ((mem a).mpr h), fun _ h => h⟩
      have re' : RE C G H (σ.set i (some v)) (env.set i none) (f1 ++ ([] ++ f2)) := h4 (fun _ _ h => h) (fun a _ u h _ => h) (.inl ⟨rfl, rfl⟩)
      have es : σ.set i (some v) = σ := by
        rw [List.getElem?_eq_some_iff] at h1
        obtain ⟨_, e⟩ := h1
        conv => lhs; rw [← e]
        exact List.set_getElem_self _
      rw [es] at re'
      exact ⟨v, h1, h G H v f (f1 ++ f2) m1 ok' re' h3⟩
theorem pm_take (i : Nat) {x : Str} (h : PE X (.Name x pos) (tVar i)) : PE X (.Name x pos) (te C W (mTake i)) := h.imp fun _ _ _ h => take_run h
theorem pm_move (i : Nat) {x : Str} (h : PE X (.Name x pos) (tVar i)) : PE X (.Name x pos) (te C W (mMove i)) := h.imp fun _ _ _ h => move_run h
abbrev OpM (X : Cx) (C : Ct) (f : Value → Value → Sem Value) (g : List O → Option O) : Prop := OpR X f (fun x y H Q => rOf C g [x, y] H Q)
theorem pm_op {op : Operator} (ho : OpM X C (binaryOp op) g) (ha : PE X a (tO C W oa)) (hb : PE X b (tO C W ob)) : PE X (.BinOp a op b pos) (te C W (mAp g [oa, ob])) :=
  (pe_op ho ha hb).imp fun _ _ _ h => ap_run h
theorem pm_un {op : UnaryOp} (ho : UnR X (unaryOp op) (fun x H Q => rOf C g [x] H Q)) (ha : PE X a (tO C W oa)) : PE X (.UnaryOp op a pos) (te C W (mAp g [oa])) :=
  (pe_un ho ha).imp fun _ _ _ h => ap_run h
theorem pm_cmp {op : CmpOp} (ho : OpM X C (compareOp op) g) (ha : PE X a (tO C W oa)) (hb : PE X b (tO C W ob)) (hm : behindInMarks op b = false) : PE X (.Compare a [op] [b] pos) (te C W (mAp g [oa, ob])) :=
  (pe_cmpR ho ha hb hm).imp fun _ _ _ h => ap_run h
theorem pm_ix (hr : IxR X (fun x y H Q => rOf C g [x, y] H Q)) (ha : PE X a (tO C W oa)) (hb : PE X b (tO C W ob)) (hs : PlainIx b) : PE X (.Subscript a b pos) (te C W (mAp g [oa, ob])) :=
  (pe_ix hr ha hb hs).imp fun _ _ _ h => ap_run h
theorem pa_args_nil : PA X [] (tAs C W []) := pa_nil
theorem pa_args_cons (ha : PE X e (tO C W oa)) (hr : PA X es (tAs C W as)) (hs : starEach (e :: es) X.env = (false, eval e X.env) :: starEach es X.env := by rfl) : PA X (e :: es) (tAs C W (oa :: as)) := pa_cons ha hr hs
theorem pm_callB {id : String} {x : Str} (hc : CallR X (.builtin id) (rOf C g)) (hg : Gl X x) (hm : X.mg x = none) (hv : bootBuiltins x = some (.builtin id)) (ha : PA X (e :: es) (tAs C W as)) (hn : x ≠ "__name__" := by decide) (hdb : (x == ("__debug__" : Str)) = false := by decide)
    (he : starEach (e :: es) X.env = (false, eval e X.env) :: starEach es X.env := by rfl) (hpl : (backTo pos (starEach es X.env)).any (·.1) = false := by rfl) : PE X (.Call (.Name x p) (e :: es) [] pos) (te C W (mAp g as)) :=
  (pe_callB hc hg hm hv ha hn hdb he hpl).imp fun _ _ _ h => ap_run h
theorem pm_callTy {id : String} {x : Str} (hc : CallR X (.type id) (rOf C g)) (hg : Gl X x) (hm : X.mg x = none) (hv : bootBuiltins x = some (.type id)) (ha : PA X (e :: es) (tAs C W as)) (hn : x ≠ "__name__" := by decide) (hdb : (x == ("__debug__" : Str)) = false := by decide)
    (he : starEach (e :: es) X.env = (false, eval e X.env) :: starEach es X.env := by rfl) (hpl : (backTo pos (starEach es X.env)).any (·.1) = false := by rfl) : PE X (.Call (.Name x p) (e :: es) [] pos) (te C W (mAp g as)) :=
  (pe_callTy hc hg hm hv ha hn hdb he hpl).imp fun _ _ _ h => ap_run h
end
end Mi
set_option Elab.async false
set_option linter.all false
set_option maxRecDepth 100000
set_option maxHeartbeats 2000000
namespace Mi
open PySem PySem.Spec PyProof.Rows L2
section
variable {C : Ct} {W : WX} {σ : L2.St} {G H G' H' : Hp} {fp fq : List Addr} {env : Env}
theorem RE.at : ∀ {env : Env} {σ : L2.St} {fp : List Addr} {i : Nat}, RE C G H σ env fp → i < env.length →
    ∃ f1 f f2, fp = f1 ++ (f ++ f2) ∧ ∀ {G' H' : Hp} {v' : Option V} {o' : Option O} {f' : List Addr}, (∀ a u, G a = some u → G' a = some u) → (∀ a, a ∈ f1 ∨ a ∈ f2 → ∀ u, H a = some u → Nt u → H' a = some u) →
        ((o' = Option.none ∧ f' = []) ∨ ∃ x y, o' = some y ∧ v' = some x ∧ RO C G' H' x y f') → RE C G' H' (σ.set i v') (env.set i o') (f1 ++ (f' ++ f2))
  | _, _, _, i, .nil, h => by simp at h
  | _, _, _, 0, .no (v := v) (g := g) b, _ => by
    refine ⟨[], [], g, rfl, fun {G' H' v' o' f'} hg hk h => ?_⟩
    rcases h with ⟨h, h'⟩ | ⟨x, y, h1, h2, h3⟩
    · subst h h'
      exact RE.no (RE.mv hg b fun a ha => hk a (.inr ha))
    · subst h1 h2
      exact (RE.so h3 (RE.mv hg b fun a ha => hk a (.inr ha)) : RE C G' H' _ _ (f' ++ g))
  | _, _, _, 0, .so (f := f) (g := g) a b, _ => by
    refine ⟨[], f, g, rfl, fun {G' H' v' o' f'} hg hk h => ?_⟩
    rcases h with ⟨h, h'⟩ | ⟨x, y, h1, h2, h3⟩
    · subst h h'
      exact RE.no (RE.mv hg b fun a ha => hk a (.inr ha))
    · subst h1 h2
      exact (RE.so h3 (RE.mv hg b fun a ha => hk a (.inr ha)) : RE C G' H' _ _ (f' ++ g))
  | _, _, _, i + 1, .no b, h => by
    obtain ⟨f1, f, f2, h2, h4⟩ := RE.at (i := i) b (by simpa using h)
    exact ⟨f1, f, f2, h2, fun hg hk h => .no (h4 hg hk h)⟩
  | _, _, _, i + 1, .so (f := f0) a b, h => by
    obtain ⟨f1, f, f2, h2, h4⟩ := RE.at (i := i) b (by simpa using h)
    refine ⟨f0 ++ f1, f, f2, by rw [h2]; simp, fun {G' H' v' o' f'} hg hk h => ?_⟩
    have q := RE.so (RO.mv (H' := H') hg a fun x hx => hk x (.inl (List.mem_append_left _ hx))) (h4 hg (fun x hx => hk x (hx.imp (fun z => List.mem_append_right _ z) id)) h)
    rw [List.append_assoc]
    exact q
theorem Ok.sub_of (ok : Ok C G H fp) (nd : fq.Nodup) (h : ∀ a ∈ fq, a ∈ fp) : Ok C G H fq := ⟨ok.sub, ok.gt, nd, fun a ha => ok.ds a (h a ha), ok.tb⟩
theorem slot_set {i : Nat} {v : V} {o : O} {f : List Addr} (ok : Ok C G H (f ++ fp)) (re : RE C G H σ env fp) (hi : i < env.length) (ro : RO C G H v o f) :
    ∃ fq, Mv G H (f ++ fp) G H fq ∧ Ok C G H fq ∧ RE C G H (σ.set i (some v)) (env.set i (some o)) fq := by
  obtain ⟨f1, f0, f2, e, h⟩ := re.at hi
  have mem : ∀ a ∈ f1 ++ (f ++ f2), a ∈ f ++ fp := fun a ha => by
    rw [e]
    simp only [List.mem_append] at ha ⊢
    rcases ha with x | x | x <;> simp [x]
  have nd : (f1 ++ (f ++ f2)).Nodup := by
    have q := ok.nd
    rw [e] at q
    have p : (f ++ (f1 ++ (f0 ++ f2))).Perm (f0 ++ (f1 ++ (f ++ f2))) := by
      rw [← List.append_assoc f1 f0 f2, ← List.append_assoc f, ← List.append_assoc f1 f f2, ← List.append_assoc f0]
      refine List.Perm.append_right f2 ?_
      rw [← List.append_assoc, ← List.append_assoc]
      refine (List.perm_append_comm).trans ?_
      rw [List.append_assoc]
      refine List.Perm.append_left f0 (List.perm_append_comm)
    exact (List.nodup_append.mp ((p.nodup_iff).mp q)).2.1
  refine ⟨f1 ++ (f ++ f2), ⟨fun _ _ h => h, fun _ _ h => .inl h, fun _ _ h _ _ => h, fun a ha => .inl (mem a ha), fun _ h => h⟩, ok.sub_of nd mem, h (fun _ _ h => h) (fun _ _ _ h _ => h) (.inr ⟨v, o, rfl, rfl, ro⟩)⟩
end
def Kb (C : Ct) (σ : L2.St) (G H : Hp) (fp : List Addr) (Q : Bool → Hp → Prop) (b : Bool) (e : Env) : Prop :=
  ∀ (G' H' : Hp) (fq : List Addr), Mv G H fp G' H' fq → Ok C G' H' fq → RE C G' H' σ e fq → Q b H'
def tt (C : Ct) (W : WX) (m : M Bool) : TT := fun σ H Q => ∃ (G : Hp) (fp : List Addr) (env : Env), Ok C G H fp ∧ RE C G H σ env fp ∧ Kr C W σ G H fp (Kb C σ G H fp Q) (m env)
def mBl (m : M O) : M Bool := fun env => match m env with
  | some (.ok (.f (.d (.bool b))) e) => some (.ok b e)
  | some (.ex x e) => some (.ex x e)
  | _ => none
def truP : PyData → Option Bool
  | .none => some false
  | .bool b => some b
  | .int i => some (i != 0)
  | .str x => if x.length ≤ sizeLine then some ((x.length : Int) != 0) else none
  | .list ps => some !ps.isEmpty
  | .tuple ps => some !ps.isEmpty
  | _ => none
def truO : O → Option Bool
  | .f (.d p) => truP p
  | .f (.l xs) => some !xs.isEmpty
  | .f (.t xs) => some !xs.isEmpty
  | .w ps => some !ps.isEmpty
  | .l xs => some !xs.isEmpty
  | _ => none
def mTru (a : Opd) : M Bool := fun env => match mOpd a env with
  | some (.ok l e) => (match l.get e with
    | some o => (match truO o with
      | some b => some (.ok b e)
      | none => none)
    | none => none)
  | some (.ex x e) => some (.ex x e)
  | none => none
def mNot (m : M Bool) : M Bool := fun env => match m env with
  | some (.ok b e) => some (.ok (!b) e)
  | some (.ex x e) => some (.ex x e)
  | none => none
def mAnd (m n : M Bool) : M Bool := fun env => match m env with
  | some (.ok true e) => n e
  | some (.ok false e) => some (.ok false e)
  | some (.ex x e) => some (.ex x e)
  | none => none
def mOr (m n : M Bool) : M Bool := fun env => match m env with
  | some (.ok false e) => n e
  | some (.ok true e) => some (.ok true e)
  | some (.ex x e) => some (.ex x e)
  | none => none
def mIfE (c : M Bool) (m n : M O) : M O := fun env => match c env with
  | some (.ok true e) => m e
  | some (.ok false e) => n e
  | some (.ex x e) => some (.ex x e)
  | none => none
def mAndV (m n : M O) : M O := fun env => match m env with
  | some (.ok (.f (.d (.bool b))) e) => if b = true then n e else some (.ok (.p (.bool false)) e)
  | some (.ex x e) => some (.ex x e)
  | _ => none
def mOrV (m n : M O) : M O := fun env => match m env with
  | some (.ok (.f (.d (.bool b))) e) => if b = true then some (.ok (.p (.bool true)) e) else n e
  | some (.ex x e) => some (.ex x e)
  | _ => none
def mNotV (m : M O) : M O := fun env => match m env with
  | some (.ok (.f (.d (.bool b))) e) => some (.ok (.p (.bool !b)) e)
  | some (.ex x e) => some (.ex x e)
  | _ => none
section
variable {C : Ct} {W : WX} {σ : L2.St} {G H G' H' : Hp} {fp fq : List Addr} {env : Env}
theorem RO.bool {v : V} {b : Bool} {f : List Addr} (h : RO C G H v (.p (.bool b)) f) : v = .bl b := by
  cases h with
  | f h =>
    cases h with
    | d h => cases h; rfl
theorem RO.int {v : V} {i : Int} {f : List Addr} (h : RO C G H v (.p (.int i)) f) : v = .int i := by
  cases h with
  | f h =>
    cases h with
    | d h => cases h; rfl
theorem RO.str {v : V} {x : Str} {f : List Addr} (h : RO C G H v (.p (.str x)) f) : v = .str x := by
  cases h with
  | f h =>
    cases h with
    | d h => cases h; rfl
theorem RO.non {v : V} {f : List Addr} (h : RO C G H v (.p .none) f) : v = .non := by
  cases h with
  | f h =>
    cases h with
    | d h => cases h; rfl
theorem tt_at {m : M Bool} {Q : Bool → Hp → Prop} (ok : Ok C G H fp) (re : RE C G H σ env fp)
    (h : Kr C W σ G H fp (Kb C σ G H fp Q) (m env)) : tt C W m σ H Q := ⟨G, fp, env, ok, re, h⟩
theorem te_at {m : M O} {Q : VK} (ok : Ok C G H fp) (re : RE C G H σ env fp)
    (h : Kr C W σ G H fp (Kv C σ G H fp Q) (m env)) : te C W m σ H Q := ⟨G, fp, env, ok, re, h⟩
theorem bl_run {m : M O} {Q : Bool → Hp → Prop} (h : tt C W (mBl m) σ H Q) : te C W m σ H (fun x H' => ∃ k, x = .bl k ∧ Q k H') := by
  obtain ⟨G, fp, env, ok, re, h⟩ := h
  refine te_at ok re ?_
  unfold mBl at h
  split at h
  · rename_i b e q
    rw [q]
    intro G' H' v fv fq m o r ro
    exact ⟨_, ro.bool, h G' H' fq (m.weak fun a ha => List.mem_append_right _ ha) (o.sub_of (List.nodup_append.mp o.nd).2.1 fun a ha => List.mem_append_right _ ha) r⟩
  · rename_i x e q
    rw [q]
    exact h
  · exact (show False from h).elim
theorem RepL.length {K : PySem.W.Frag} : ∀ {ps : List PyData} {vs : List V}, RepL K G vs ps → vs.length = ps.length
  | _, _, .nil => rfl
  | _, _, .cons _ b => by simp [RepL.length b]
theorem RFs.length : ∀ {ps : List F} {vs : List V}, RFs C G vs ps → vs.length = ps.length
  | _, _, .nil => rfl
  | _, _, .cons _ b => by simp [RFs.length b]
theorem empty_len {α β : Type} {xs : List α} {ys : List β} (h : xs.length = ys.length) : xs.isEmpty = ys.isEmpty := by
  cases xs <;> cases ys <;> simp_all
theorem tru_val {v : V} {o : O} {f : List Addr} {b : Bool} (ro : RO C G H v o f) (hs : ∀ a u, G a = some u → H a = some u) (e : truO o = some b) : TruV C.K v H b := by
  cases ro with
  | f ro =>
    cases ro with
    | d r =>
      have e : truP _ = some b := e
      cases r with
      | non => cases e; rfl
      | bl x => cases e; rfl
      | int i => cases e; rfl
      | str x =>
        have e : (if x.length ≤ sizeLine then some ((x.length : Int) != 0) else none) = some b := e
        by_cases hx : x.length ≤ sizeLine
        · rw [if_pos hx] at e; cases e; exact ⟨hx, rfl⟩
        · rw [if_neg hx] at e; cases e
      | lst a r => cases e; exact .inl ⟨_, .of (hs _ _ a), by rw [empty_len r.length]⟩
      | emp a => cases e
      | tup a r => cases e; exact .inr (.inl ⟨_, sqt_sub hs a, by rw [empty_len r.length]⟩)
    | l a r => cases e; exact .inl ⟨_, .of (hs _ _ a), by rw [empty_len r.length]⟩
    | t a r => cases e; exact .inr (.inl ⟨_, .of (hs _ _ a), by rw [empty_len r.length]⟩)
    | i _ _ _ _ => cases e
    | fn _ => cases e
    | x _ => cases e
    | xp _ _ => cases e
    | s _ => cases e
  | w a r => cases e; exact .inl ⟨_, .of a, by rw [empty_len r.length]⟩
  | l a r => cases e; exact .inl ⟨_, .of a, by rw [empty_len r.length]⟩
  | i _ _ _ _ => cases e
theorem tru_run {a : Opd} {Q : Bool → Hp → Prop} (h : tt C W (mTru a) σ H Q) : tO C W a σ H (fun x H' => ∃ k, TruV C.K x H' k ∧ Q k H') := by
  obtain ⟨G, fp, env, ok, re, h⟩ := h
  refine opd_run ok re ?_
  unfold mTru at h
  cases q : mOpd a env with
  | none => simp only [q] at h; exact (show False from h).elim
  | some z =>
    cases z with
    | ex x e => simp only [q] at h; exact h
    | ok l e =>
      simp only [q] at h
      intro G' H' v fq m o r l'
      cases q1 : l.get e with
      | none => simp only [q1] at h; exact (show False from h).elim
      | some w =>
        simp only [q1] at h
        cases q2 : truO w with
        | none => simp only [q2] at h; exact (show False from h).elim
        | some b =>
          simp only [q2] at h
          obtain ⟨f, ro, _⟩ := l'.get r q1
          exact ⟨b, tru_val ro o.sub q2, h G' H' fq m o r⟩
theorem not_run {m : M Bool} {Q : Bool → Hp → Prop} (h : tt C W (mNot m) σ H Q) : tt C W m σ H (fun b H' => Q (!b) H') := by
  obtain ⟨G, fp, env, ok, re, h⟩ := h
  refine tt_at ok re ?_
  unfold mNot at h
  cases q : m env with
  | none => simp only [q] at h; exact (show False from h).elim
  | some z => cases z <;> (simp only [q] at h; exact h)
theorem tt_seq {Q : Bool → Hp → Prop} (mv : Mv G H fp G' H' fq) {r : Option (R Bool)} (h : Kr C W σ G H fp (Kb C σ G H fp Q) r) : Kr C W σ G' H' fq (Kb C σ G' H' fq Q) r := by
  cases r with
  | none => exact h
  | some z =>
    cases z with
    | ok b e => exact fun G2 H2 fr m2 o r => h G2 H2 fr (Mv.seq (fv := []) mv m2) o r
    | ex x e => exact Kx.seq h mv
theorem te_seq {Q : VK} (mv : Mv G H fp G' H' fq) {r : Option (R O)} (h : Kr C W σ G H fp (Kv C σ G H fp Q) r) : Kr C W σ G' H' fq (Kv C σ G' H' fq Q) r := by
  cases r with
  | none => exact h
  | some z =>
    cases z with
    | ok b e => exact Kv.seq h mv
    | ex x e => exact Kx.seq h mv
theorem and_run {m n : M Bool} {Q : Bool → Hp → Prop} (h : tt C W (mAnd m n) σ H Q) : tAnd (tt C W m) (tt C W n) σ H Q := by
  obtain ⟨G, fp, env, ok, re, h⟩ := h
  refine tt_at ok re ?_
  unfold mAnd at h
  cases q : m env with
  | none => simp only [q] at h; exact (show False from h).elim
  | some z =>
    cases z with
    | ex x e => simp only [q] at h; exact h
    | ok b e =>
      intro G' H' fq mv o r
      cases b with
      | true =>
        simp only [q] at h
        rw [if_pos rfl]
        exact tt_at o r (tt_seq mv h)
      | false =>
        simp only [q] at h
        rw [if_neg Bool.false_ne_true]
        exact h G' H' fq mv o r
theorem or_run {m n : M Bool} {Q : Bool → Hp → Prop} (h : tt C W (mOr m n) σ H Q) : tOr (tt C W m) (tt C W n) σ H Q := by
  obtain ⟨G, fp, env, ok, re, h⟩ := h
  refine tt_at ok re ?_
  unfold mOr at h
  cases q : m env with
  | none => simp only [q] at h; exact (show False from h).elim
  | some z =>
    cases z with
    | ex x e => simp only [q] at h; exact h
    | ok b e =>
      intro G' H' fq mv o r
      cases b with
      | true =>
        simp only [q] at h
        rw [if_pos rfl]
        exact h G' H' fq mv o r
      | false =>
        simp only [q] at h
        rw [if_neg Bool.false_ne_true]
        exact tt_at o r (tt_seq mv h)
theorem ifE_run {c : M Bool} {m n : M O} {Q : VK} (h : te C W (mIfE c m n) σ H Q) : tIf (tt C W c) (te C W m) (te C W n) σ H Q := by
  obtain ⟨G, fp, env, ok, re, h⟩ := h
  refine tt_at ok re ?_
  unfold mIfE at h
  cases q : c env with
  | none => simp only [q] at h; exact (show False from h).elim
  | some z =>
    cases z with
    | ex x e => simp only [q] at h; exact h
    | ok b e =>
      intro G' H' fq mv o r
      cases b with
      | true =>
        simp only [q] at h
        rw [if_pos rfl]
        exact te_at o r (te_seq mv h)
      | false =>
        simp only [q] at h
        rw [if_neg Bool.false_ne_true]
        exact te_at o r (te_seq mv h)
theorem drop_v {f : List Addr} (m : Mv G H fp G' H' (f ++ fq)) : Mv G H fp G' H' fq := m.weak fun a ha => List.mem_append_right _ ha
theorem drop_o {f : List Addr} (o : Ok C G H (f ++ fq)) : Ok C G H fq := o.sub_of (List.nodup_append.mp o.nd).2.1 fun a ha => List.mem_append_right _ ha
theorem andV_run {m n : M O} {Q : VK} (h : te C W (mAndV m n) σ H Q) : tAndV (te C W m) (te C W n) σ H Q := by
  obtain ⟨G, fp, env, ok, re, h⟩ := h
  refine te_at ok re ?_
  unfold mAndV at h
  split at h
  · rename_i b e q
    rw [q]
    intro G' H' v fv fr mv o r ro
    refine ⟨b, ro.bool, ?_⟩
    cases b with
    | true =>
      rw [if_pos rfl] at h ⊢
      exact te_at (drop_o o) r (te_seq (drop_v mv) h)
    | false =>
      rw [if_neg Bool.false_ne_true] at h ⊢
      exact h G' H' (.bl false) [] fr (drop_v mv) (drop_o o) r (.f (.d (.bl _)))
  · rename_i x e q
    rw [q]
    exact h
  · exact (show False from h).elim
theorem orV_run {m n : M O} {Q : VK} (h : te C W (mOrV m n) σ H Q) : tOrV (te C W m) (te C W n) σ H Q := by
  obtain ⟨G, fp, env, ok, re, h⟩ := h
  refine te_at ok re ?_
  unfold mOrV at h
  split at h
  · rename_i b e q
    rw [q]
    intro G' H' v fv fr mv o r ro
    refine ⟨b, ro.bool, ?_⟩
    cases b with
    | true =>
      rw [if_pos rfl] at h ⊢
      exact h G' H' (.bl true) [] fr (drop_v mv) (drop_o o) r (.f (.d (.bl _)))
    | false =>
      rw [if_neg Bool.false_ne_true] at h ⊢
      exact te_at (drop_o o) r (te_seq (drop_v mv) h)
  · rename_i x e q
    rw [q]
    exact h
  · exact (show False from h).elim
theorem notV_run {m : M O} {Q : VK} (h : te C W (mNotV m) σ H Q) : tNotV (te C W m) σ H Q := by
  obtain ⟨G, fp, env, ok, re, h⟩ := h
  refine te_at ok re ?_
  unfold mNotV at h
  split at h
  · rename_i b e q
    rw [q]
    intro G' H' v fv fr mv o r ro
    exact ⟨b, ro.bool, h G' H' (.bl (!b)) [] fr (drop_v mv) (drop_o o) r (.f (.d (.bl _)))⟩
  · rename_i x e q
    rw [q]
    exact h
  · exact (show False from h).elim
end
section
variable {X : Cx} {C : Ct} {W : WX} {a b c e : Expr} {rest : List Expr} {pos : Pos} {oa ob : Opd} {g : List O → Option O} {m n : M O} {tm tn : M Bool}
theorem ptm_cmp {op : CmpOp} (ho : OpM X C (compareOp op) g) (ha : PE X a (tO C W oa)) (hb : PE X b (tO C W ob)) (hm : behindInMarks op b = false) : PT X (.Compare a [op] [b] pos) (tt C W (mBl (mAp g [oa, ob]))) :=
  (pt_cmpR ho ha hb hm).imp fun _ _ _ h => ap_run (bl_run h)
theorem ptm_tru (hK : X.K = C.K) (ha : PE X a (tO C W oa)) (he : ∀ whole, isTrue a X.env whole = (do let v ← whole; standAt a.pos; holding [v] (truthy v)) := by intro _; rfl) : PT X a (tt C W (mTru oa)) :=
  (pt_truth ha he).imp fun _ _ _ h => by rw [hK]; exact tru_run h
theorem ptm_not (h : PT X a (tt C W tm)) : PT X (.UnaryOp .Not a pos) (tt C W (mNot tm)) := (pt_not h).imp fun _ _ _ h => not_run h
theorem pwm_and1 (h : PT X a (tt C W tm)) : PW X (.BoolOp .And [a] pos) (tt C W tm) := pw_and1 h
theorem pwm_or1 (h : PT X a (tt C W tm)) : PW X (.BoolOp .Or [a] pos) (tt C W tm) := pw_or1 h
theorem pwm_and (h : PT X a (tt C W tm)) (k : PW X (.BoolOp .And (b :: rest) pos) (tt C W tn)) : PW X (.BoolOp .And (a :: b :: rest) pos) (tt C W (mAnd tm tn)) := (pw_and h k).imp fun _ _ _ h => and_run h
theorem pwm_or (h : PT X a (tt C W tm)) (k : PW X (.BoolOp .Or (b :: rest) pos) (tt C W tn)) : PW X (.BoolOp .Or (a :: b :: rest) pos) (tt C W (mOr tm tn)) := (pw_or h k).imp fun _ _ _ h => or_run h
theorem pm_ife (hc : PT X c (tt C W tm)) (ha : PE X a (te C W m)) (hb : PE X b (te C W n)) : PE X (.IfExp c a b pos) (te C W (mIfE tm m n)) := (pe_ifExp hc ha hb).imp fun _ _ _ h => ifE_run h
theorem pm_one {op : BoolOp} (h : PE X a (te C W m)) : PE X (.BoolOp op [a] pos) (te C W m) := pe_one h
theorem pm_and (h : PE X a (te C W m)) (k : PE X (.BoolOp .And (b :: rest) pos) (te C W n)) : PE X (.BoolOp .And (a :: b :: rest) pos) (te C W (mAndV m n)) := (pe_and h k).imp fun _ _ _ h => andV_run h
theorem pm_or (h : PE X a (te C W m)) (k : PE X (.BoolOp .Or (b :: rest) pos) (te C W n)) : PE X (.BoolOp .Or (a :: b :: rest) pos) (te C W (mOrV m n)) := (pe_or h k).imp fun _ _ _ h => orV_run h
theorem pm_not (h : PE X a (te C W m)) : PE X (.UnaryOp .Not a pos) (te C W (mNotV m)) := (pe_not h).imp fun _ _ _ h => notV_run h
end
end Mi
set_option Elab.async false
set_option linter.all false
set_option maxRecDepth 100000
set_option maxHeartbeats 2000000
namespace Mi
open PySem PySem.Spec PyProof.Rows L2
inductive SR where
  | nx (e : Env)
  | rt (o : O) (e : Env)
  | bk (e : Env)
  | ct (e : Env)
  | ex (x : Ex) (e : Env)
abbrev MS := Env → Option SR
def Pin (P : Nat → Bool) (σ σ' : L2.St) : Prop := σ'.length = σ.length ∧ ∀ i, P i = true → σ'[i]? = σ[i]?
def Kn (C : Ct) (P : Nat → Bool) (σ : L2.St) (G H : Hp) (fp : List Addr) (e : Env) (Q : L2.St → Hp → Prop) : Prop :=
  ∀ (σ' : L2.St) (G' H' : Hp) (fq : List Addr), Mv G H fp G' H' fq → Ok C G' H' fq → RE C G' H' σ' e fq → Pin P σ σ' → Q σ' H'
def Kt (C : Ct) (P : Nat → Bool) (σ : L2.St) (G H : Hp) (fp : List Addr) (o : O) (e : Env) (Q : VK) : Prop :=
  ∀ (σ' : L2.St) (G' H' : Hp) (v : V) (fv fq : List Addr), Mv G H fp G' H' (fv ++ fq) → Ok C G' H' (fv ++ fq) → RE C G' H' σ' e fq → RO C G' H' v o fv → Pin P σ σ' → Q v H'
def Kxs (C : Ct) (W : WX) (P : Nat → Bool) (σ : L2.St) (G H : Hp) (fp : List Addr) (x : Ex) (e : Env) : Prop :=
  ∀ (σ' : L2.St) (G' H' : Hp) (fq : List Addr) (cls : Value) (d : Option Addr), Mv G H fp G' H' fq → Ok C G' H' fq → RE C G' H' σ' e fq → RX C x cls d H' → Pin P σ σ' → W cls d σ' H'
def Ks (C : Ct) (W : WX) (P : Nat → Bool) (σ : L2.St) (G H : Hp) (fp : List Addr) (D : Ends) : Option SR → Prop
  | none => False
  | some (.nx e) => Kn C P σ G H fp e D.nx
  | some (.bk e) => Kn C P σ G H fp e D.bk
  | some (.ct e) => Kn C P σ G H fp e D.ct
  | some (.rt o e) => Kt C P σ G H fp o e D.rt
  | some (.ex x e) => Kxs C W P σ G H fp x e
def ts (C : Ct) (W : WX) (P : Nat → Bool) (m : MS) : TS := fun D σ H => ∃ (G : Hp) (fp : List Addr) (env : Env), Ok C G H fp ∧ RE C G H σ env fp ∧ Ks C W P σ G H fp D (m env)
def sNil : MS := fun e => some (.nx e)
def sSeq (m n : MS) : MS := fun env => match m env with
  | some (.nx e) => n e
  | r => r
def sDrop (m : M O) : MS := fun env => match m env with
  | some (.ok _ e) => some (.nx e)
  | some (.ex x e) => some (.ex x e)
  | none => none
def sRet (m : M O) : MS := fun env => match m env with
  | some (.ok o e) => some (.rt o e)
  | some (.ex x e) => some (.ex x e)
  | none => none
def sIf (c : M Bool) (m n : MS) : MS := fun env => match c env with
  | some (.ok true e) => m e
  | some (.ok false e) => n e
  | some (.ex x e) => some (.ex x e)
  | none => none
def sBrk : MS := fun e => some (.bk e)
def sCnt : MS := fun e => some (.ct e)
abbrev Tg := O → Env → Option Env
def gN (i : Nat) : Tg := fun o e => if i < e.length then some (e.set i (some o)) else none
def sAsg (m : M O) (g : Tg) : MS := fun env => match m env with
  | some (.ok o e) => (match g o e with
    | some e' => some (.nx e')
    | none => none)
  | some (.ex x e) => some (.ex x e)
  | none => none
def sFor (g : Tg) (b : MS) : List O → MS
  | [], env => some (.nx env)
  | x :: xs, env => match g x env with
    | none => none
    | some e => match b e with
      | some (.nx e') => sFor g b xs e'
      | some (.ct e') => sFor g b xs e'
      | some (.bk e') => some (.nx e')
      | r => r
def sForI (m : M (List O)) (g : Tg) (b : MS) : MS := fun env => match m env with
  | some (.ok xs e) => sFor g b xs e
  | some (.ex x e) => some (.ex x e)
  | none => none
def sWhile (c : M Bool) (b : MS) : Nat → MS
  | 0, _ => none
  | n + 1, env => match c env with
    | some (.ok true e) => (match b e with
      | some (.nx e') => sWhile c b n e'
      | some (.ct e') => sWhile c b n e'
      | some (.bk e') => some (.nx e')
      | r => r)
    | some (.ok false e) => some (.nx e)
    | some (.ex x e) => some (.ex x e)
    | none => none
section
variable {C : Ct} {W : WX} {P : Nat → Bool} {σ σ' σ1 : L2.St} {G H G' H' : Hp} {fp fq : List Addr} {env : Env} {D : Ends}
theorem Pin.refl : Pin P σ σ := ⟨rfl, fun _ _ => rfl⟩
theorem Pin.trans {σ2 : L2.St} (a : Pin P σ σ1) (b : Pin P σ1 σ2) : Pin P σ σ2 := ⟨b.1.trans a.1, fun i h => (b.2 i h).trans (a.2 i h)⟩
theorem ts_at {m : MS} (ok : Ok C G H fp) (re : RE C G H σ env fp) (h : Ks C W P σ G H fp D (m env)) : ts C W P m D σ H := ⟨G, fp, env, ok, re, h⟩
theorem Kn.seq {e : Env} {Q : L2.St → Hp → Prop} (h : Kn C P σ G H fp e Q) (m : Mv G H fp G' H' fq) (p : Pin P σ σ') : Kn C P σ' G' H' fq e Q := fun s G2 H2 fr m2 o r q => h s G2 H2 fr (Mv.seq (fv := []) m m2) o r (p.trans q)
theorem Kt.seq {o : O} {e : Env} {Q : VK} (h : Kt C P σ G H fp o e Q) (m : Mv G H fp G' H' fq) (p : Pin P σ σ') : Kt C P σ' G' H' fq o e Q := fun s G2 H2 v fv fr m2 o r ro q => h s G2 H2 v fv fr (Mv.seq (fv := []) m m2) o r ro (p.trans q)
theorem Kxs.seq {x : Ex} {e : Env} (h : Kxs C W P σ G H fp x e) (m : Mv G H fp G' H' fq) (p : Pin P σ σ') : Kxs C W P σ' G' H' fq x e := fun s G2 H2 fr cls d m2 o r rx q => h s G2 H2 fr cls d (Mv.seq (fv := []) m m2) o r rx (p.trans q)
theorem Ks.seq {r : Option SR} (h : Ks C W P σ G H fp D r) (m : Mv G H fp G' H' fq) (p : Pin P σ σ') : Ks C W P σ' G' H' fq D r := by
  cases r with
  | none => exact h
  | some z =>
    cases z with
    | nx e => exact Kn.seq h m p
    | bk e => exact Kn.seq h m p
    | ct e => exact Kn.seq h m p
    | rt o e => exact Kt.seq h m p
    | ex x e => exact Kxs.seq h m p
theorem Kxs.kx {x : Ex} {e : Env} (h : Kxs C W P σ G H fp x e) : Kx C W σ G H fp x e := fun G' H' fq cls d m o r rx => h σ G' H' fq cls d m o r rx .refl
theorem drop_run {m : M O} (h : ts C W P (sDrop m) D σ H) : tDrop (te C W m) D σ H := by
  obtain ⟨G, fp, env, ok, re, h⟩ := h
  refine te_at ok re ?_
  unfold sDrop at h
  cases q : m env with
  | none => simp only [q] at h; exact (show False from h).elim
  | some z =>
    cases z with
    | ex x e => simp only [q] at h; exact Kxs.kx h
    | ok o e =>
      simp only [q] at h
      exact fun G' H' v fv fq m o r ro => h σ G' H' fq (drop_v m) (drop_o o) r .refl
theorem ret_run {m : M O} (h : ts C W P (sRet m) D σ H) : tRet (te C W m) D σ H := by
  obtain ⟨G, fp, env, ok, re, h⟩ := h
  refine te_at ok re ?_
  unfold sRet at h
  cases q : m env with
  | none => simp only [q] at h; exact (show False from h).elim
  | some z =>
    cases z with
    | ex x e => simp only [q] at h; exact Kxs.kx h
    | ok o e =>
      simp only [q] at h
      exact fun G' H' v fv fq m o r ro => h σ G' H' v fv fq m o r ro .refl
theorem if_run {c : M Bool} {m n : MS} (h : ts C W P (sIf c m n) D σ H) : tIfS (tt C W c) (ts C W P m) (ts C W P n) D σ H := by
  obtain ⟨G, fp, env, ok, re, h⟩ := h
  refine tt_at ok re ?_
  unfold sIf at h
  cases q : c env with
  | none => simp only [q] at h; exact (show False from h).elim
  | some z =>
    cases z with
    | ex x e => simp only [q] at h; exact Kxs.kx h
    | ok b e =>
      intro G' H' fq mv o r
      cases b with
      | true =>
        simp only [q] at h
        rw [if_pos rfl]
        exact ts_at o r (h.seq mv .refl)
      | false =>
        simp only [q] at h
        rw [if_neg Bool.false_ne_true]
        exact ts_at o r (h.seq mv .refl)
theorem seq_run {m n : MS} (h : ts C W P (sSeq m n) D σ H) : tSeq (ts C W P m) (ts C W P n) D σ H := by
  obtain ⟨G, fp, env, ok, re, h⟩ := h
  refine ts_at ok re ?_
  unfold sSeq at h
  cases q : m env with
  | none => simp only [q] at h; exact (show False from h).elim
  | some z =>
    cases z with
    | nx e =>
      simp only [q] at h
      exact fun s G' H' fq mv o r p => ts_at o r (h.seq mv p)
    | bk e => simp only [q] at h; exact h
    | ct e => simp only [q] at h; exact h
    | rt o e => simp only [q] at h; exact h
    | ex x e => simp only [q] at h; exact h
def tg (C : Ct) (P : Nat → Bool) (g : Tg) : TG := fun v σ H Q => ∃ (G : Hp) (f fp : List Addr) (env : Env) (o : O), Ok C G H (f ++ fp) ∧ RE C G H σ env fp ∧ RO C G H v o f ∧
  match g o env with
  | none => False
  | some e => Kn C P σ G H (f ++ fp) e Q
theorem gN_run {i : Nat} {v : V} {Q : L2.St → Hp → Prop} (hp : P i = false) (h : tg C P (gN i) v σ H Q) : gName i v σ H Q := by
  obtain ⟨G, f, fp, env, o, ok, re, ro, h⟩ := h
  unfold gN at h
  by_cases hi : i < env.length
  · rw [if_pos hi] at h
    obtain ⟨fq, m, ok', re'⟩ := slot_set ok re hi ro
    refine h _ G H fq m ok' re' ⟨List.length_set, fun j hj => ?_⟩
    by_cases e : i = j
    · subst e; rw [hp] at hj; cases hj
    · rw [List.getElem?_set_ne e]
  · rw [if_neg hi] at h; exact h.elim
theorem asg_run {m : M O} {g : Tg} (h : ts C W P (sAsg m g) D σ H) : tAsg (te C W m) (tg C P g) D σ H := by
  obtain ⟨G, fp, env, ok, re, h⟩ := h
  refine te_at ok re ?_
  unfold sAsg at h
  cases q : m env with
  | none => simp only [q] at h; exact (show False from h).elim
  | some z =>
    cases z with
    | ex x e => simp only [q] at h; exact Kxs.kx h
    | ok o e =>
      simp only [q] at h
      intro G' H' v fv fq m ok' r ro
      refine ⟨G', fv, fq, e, o, ok', r, ro, ?_⟩
      cases q2 : g o e with
      | none => simp only [q2] at h; exact (show False from h).elim
      | some e' => simp only [q2] at h; exact Kn.seq h m .refl
def IO (C : Ct) (G0 : Hp) (J : It) (xs : List O) : Prop := ∀ (G H : Hp) (fp : List Addr), (∀ a u, G0 a = some u → G a = some u) → Ok C G H fp →
  (∀ (i : Nat) (x : O), xs[i]? = some x → J.go i H ∧ ∀ (v : V) (H' : Hp), J.yld i H v H' → ∃ (G' : Hp) (fv : List Addr), Ad G H G' H' fv ∧ RO C G' H' v x fv) ∧ J.stop xs.length H
def Ki (C : Ct) (σ : L2.St) (G H : Hp) (fp : List Addr) (R : It → Hp → Prop) (xs : List O) (e : Env) : Prop :=
  ∀ (G' H' : Hp) (fq : List Addr) (J : It), Mv G H fp G' H' fq → Ok C G' H' fq → RE C G' H' σ e fq → IO C G' J xs → R J H'
def ti (C : Ct) (W : WX) (m : M (List O)) : TI := fun σ H R => ∃ (G : Hp) (fp : List Addr) (env : Env), Ok C G H fp ∧ RE C G H σ env fp ∧ Kr C W σ G H fp (Ki C σ G H fp R) (m env)
theorem for_run {m : M (List O)} {g : Tg} {b : MS} (h : ts C W P (sForI m g b) D σ H) : tFor (ti C W m) (tg C P g) (ts C W P b) D σ H := by
  obtain ⟨G, fp, env, ok, re, h⟩ := h
  refine ⟨G, fp, env, ok, re, ?_⟩
  unfold sForI at h
  cases q : m env with
  | none => simp only [q] at h; exact (show False from h).elim
  | some z =>
    cases z with
    | ex x e => simp only [q] at h; exact Kxs.kx h
    | ok xs e =>
      simp only [q] at h
      intro G1 H1 f1 J m1 ok1 re1 io
      refine ⟨fun i k s2 H2 => k = xs.length - i ∧ i ≤ xs.length ∧ ∃ (G2 : Hp) (f2 : List Addr) (e2 : Env), (∀ a u, G1 a = some u → G2 a = some u) ∧ Ok C G2 H2 f2 ∧ RE C G2 H2 s2 e2 f2 ∧ Ks C W P s2 G2 H2 f2 D (sFor g b (xs.drop i) e2),
        ⟨xs.length, by simp, Nat.zero_le _, G1, f1, e, fun _ _ h => h, ok1, re1, by rw [List.drop_zero]; exact h.seq m1 .refl⟩, ?_⟩
      rintro i k s2 H2 ⟨rfl, hi, G2, f2, e2, hg, ok2, re2, h2⟩
      obtain ⟨it, st⟩ := io G2 H2 f2 hg ok2
      by_cases hlt : i < xs.length
      · have hx : xs[i]? = some xs[i] := by simp [hlt]
        obtain ⟨go, yl⟩ := it i _ hx
        rw [List.drop_eq_getElem_cons hlt] at h2
        refine .inr ⟨go, fun s3 H3 => ∃ (G3 : Hp) (f3 : List Addr) (e3 : Env), (∀ a u, G1 a = some u → G3 a = some u) ∧ Ok C G3 H3 f3 ∧ RE C G3 H3 s3 e3 f3 ∧ Ks C W P s3 G3 H3 f3 D (sFor g b (xs.drop (i + 1)) e3),
          fun s3 H3 z => ⟨xs.length - (i + 1), by omega, rfl, hlt, z⟩, fun v H3 y => ?_⟩
        obtain ⟨G3, fv, ad, ro⟩ := yl v H3 y
        have ok3 := ad.ok ok2 re2.nn
        have re3 := re2.ad ad
        refine ⟨G3, fv, f2, e2, xs[i], ok3, re3, ro, ?_⟩
        have h2 : Ks C W P s2 G2 H2 f2 D (match g xs[i] e2 with | none => none | some e => match b e with | some (.nx e') => sFor g b (xs.drop (i + 1)) e' | some (.ct e') => sFor g b (xs.drop (i + 1)) e' | some (.bk e') => some (.nx e') | r => r) := h2
        cases q3 : g xs[i] e2 with
        | none => simp only [q3] at h2; exact (show False from h2).elim
        | some e3 =>
          simp only [q3] at h2
          show Kn C P s2 G3 H3 (fv ++ f2) e3 _
          intro s4 G4 H4 f4 m4 ok4 re4 p4
          have mm : Mv G2 H2 f2 G4 H4 f4 := Mv.seq (fv := []) ad.mv m4
          have hg4 : ∀ a u, G1 a = some u → G4 a = some u := fun a u h => m4.gs a u (ad.gs a u (hg a u h))
          refine ts_at ok4 re4 ?_
          cases q4 : b e3 with
          | none => simp only [q4] at h2; exact (show False from h2).elim
          | some z =>
            cases z with
            | nx e' =>
              simp only [q4] at h2
              exact fun s5 G5 H5 f5 m5 ok5 re5 p5 => ⟨G5, f5, e', fun a u h => m5.gs a u (hg4 a u h), ok5, re5, h2.seq (Mv.seq (fv := []) mm m5) (p4.trans p5)⟩
            | ct e' =>
              simp only [q4] at h2
              exact fun s5 G5 H5 f5 m5 ok5 re5 p5 => ⟨G5, f5, e', fun a u h => m5.gs a u (hg4 a u h), ok5, re5, h2.seq (Mv.seq (fv := []) mm m5) (p4.trans p5)⟩
            | bk e' =>
              simp only [q4] at h2
              exact Kn.seq h2 mm p4
            | rt o e' =>
              simp only [q4] at h2
              exact Kt.seq h2 mm p4
            | ex x e' =>
              simp only [q4] at h2
              exact Kxs.seq h2 mm p4
      · have e0 : i = xs.length := by omega
        subst e0
        refine .inl ⟨st, ?_⟩
        rw [List.drop_length] at h2
        exact h2 s2 G2 H2 f2 .refl ok2 re2 .refl
theorem while_run {c : M Bool} {b : MS} {n : Nat} (h : ts C W P (sWhile c b n) D σ H) : tWhile (tt C W c) (ts C W P b) D σ H := by
  obtain ⟨G, fp, env, ok, re, h⟩ := h
  refine ⟨fun k s2 H2 => ∃ (G2 : Hp) (f2 : List Addr) (e2 : Env), Ok C G2 H2 f2 ∧ RE C G2 H2 s2 e2 f2 ∧ Ks C W P s2 G2 H2 f2 D (sWhile c b k e2), ⟨n, G, fp, env, ok, re, h⟩, ?_⟩
  rintro k s2 H2 ⟨G2, f2, e2, ok2, re2, h2⟩
  cases k with
  | zero => exact (show False from h2).elim
  | succ k =>
    refine tt_at ok2 re2 ?_
    have h2 : Ks C W P s2 G2 H2 f2 D (match c e2 with | some (.ok true e) => (match b e with | some (.nx e') => sWhile c b k e' | some (.ct e') => sWhile c b k e' | some (.bk e') => some (.nx e') | r => r) | some (.ok false e) => some (.nx e) | some (.ex x e) => some (.ex x e) | none => none) := h2
    cases q : c e2 with
    | none => simp only [q] at h2; exact (show False from h2).elim
    | some z =>
      cases z with
      | ex x e => simp only [q] at h2; exact Kxs.kx h2
      | ok t e =>
        intro G3 H3 f3 m3 ok3 re3
        cases t with
        | false =>
          simp only [q] at h2
          rw [if_neg Bool.false_ne_true]
          exact h2 s2 G3 H3 f3 m3 ok3 re3 .refl
        | true =>
          simp only [q] at h2
          rw [if_pos rfl]
          refine ⟨fun s3 H3 => ∃ (G2 : Hp) (f2 : List Addr) (e2 : Env), Ok C G2 H3 f2 ∧ RE C G2 H3 s3 e2 f2 ∧ Ks C W P s3 G2 H3 f2 D (sWhile c b k e2), fun s3 H3 z => ⟨k, Nat.lt_succ_self k, z⟩, ?_⟩
          refine ts_at ok3 re3 ?_
          cases q4 : b e with
          | none => simp only [q4] at h2; exact (show False from h2).elim
          | some z =>
            cases z with
            | nx e' =>
              simp only [q4] at h2
              exact fun s5 G5 H5 f5 m5 ok5 re5 p5 => ⟨G5, f5, e', ok5, re5, h2.seq (Mv.seq (fv := []) m3 m5) p5⟩
            | ct e' =>
              simp only [q4] at h2
              exact fun s5 G5 H5 f5 m5 ok5 re5 p5 => ⟨G5, f5, e', ok5, re5, h2.seq (Mv.seq (fv := []) m3 m5) p5⟩
            | bk e' =>
              simp only [q4] at h2
              exact Kn.seq h2 m3 .refl
            | rt o e' =>
              simp only [q4] at h2
              exact Kt.seq h2 m3 .refl
            | ex x e' =>
              simp only [q4] at h2
              exact Kxs.seq h2 m3 .refl
end
section
variable {X : Cx} {C : Ct} {W : WX} {P : Nat → Bool} {e c iter tgt : Expr} {st : Stmt} {body rest : List Stmt} {pos : Pos} {m : M O} {tm : M Bool} {ms ns : MS} {im : M (List O)} {g : Tg}
theorem psm_nil : PSs X [] (ts C W P sNil) := pss_nil.imp fun D σ H ⟨G, fp, env, ok, re, h⟩ => h σ G H fp .refl ok re .refl
theorem psm_pass : PS X (.Pass pos) (ts C W P sNil) := ps_pass.imp fun D σ H ⟨G, fp, env, ok, re, h⟩ => h σ G H fp .refl ok re .refl
theorem psm_break : PS X (.Break pos) (ts C W P sBrk) := ps_break.imp fun D σ H ⟨G, fp, env, ok, re, h⟩ => h σ G H fp .refl ok re .refl
theorem psm_cont : PS X (.Continue pos) (ts C W P sCnt) := ps_continue.imp fun D σ H ⟨G, fp, env, ok, re, h⟩ => h σ G H fp .refl ok re .refl
theorem psm_cons (h1 : PS X st (ts C W P ms)) (h2 : PSs X rest (ts C W P ns)) : PSs X (st :: rest) (ts C W P (sSeq ms ns)) := (pss_cons h1 h2).imp fun _ _ _ h => seq_run h
theorem psm_one (h1 : PS X st (ts C W P ms)) : PSs X [st] (ts C W P ms) := pss_one h1
theorem psm_expr (he : PE X e (te C W m)) (hs : swapsWith e none pos.line X.env = pure false := by rfl) : PS X (.Expr e pos) (ts C W P (sDrop m)) := (ps_expr he hs).imp fun _ _ _ h => drop_run h
theorem psm_ret (he : PE X e (te C W m)) : PS X (.Return (some e) pos) (ts C W P (sRet m)) := (ps_ret he).imp fun _ _ _ h => ret_run h
theorem psm_if {a b : List Stmt} (hc : PT X c (tt C W tm)) (ha : PSs X a (ts C W P ms)) (hb : PSs X b (ts C W P ns)) : PS X (.If c a b pos) (ts C W P (sIf tm ms ns)) := (ps_if hc ha hb).imp fun _ _ _ h => if_run h
theorem pgm_name {i : Nat} {x : Str} (hp : P i = false) (hN : X.N.Nodup) (hi : X.N[i]? = some x) (hx : Loc X.env.scope x) (hf : X.fn x = true ∨ X.env.scope.names.lookup x = some .local := by first | exact .inl rfl | exact .inr rfl | assumption) : PG X (.Name x pos) (tg C P (gN i)) := by
  have k := pg_name (X := X) (pos := pos) hN hi hx hf
  exact ⟨fun pins s σ H v u Q I r h => k.run pins s σ H v u Q I r (gN_run hp h)⟩
theorem psm_asg {t : Expr} (he : PE X e (te C W m)) (hg : PG X t (tg C P g)) (hs : swapsWithSole [t] e pos.line X.env = pure false := by rfl) (hw : swappedStores [t] e X.env = pure none := by rfl)
    (h1 : (assignEach [t] X.env).map (·.2) = [assign t X.env] := by rfl) : PS X (.Assign [t] e pos) (ts C W P (sAsg m g)) := (ps_asg he hg hs hw h1).imp fun _ _ _ h => asg_run h
theorem psm_for (hp : PassesOwn (model X.prog X.w) X.A X.env X.xe) (hc : X.calm = true) (hi : PI X tgt iter (ti C W im)) (hg : PG X tgt (tg C P g)) (hb : PSs X body (ts C W P ms))
    (hs : ∀ x, foldedSetIterable iter X.env x = pure x := by intro _; rfl) : PS X (.For tgt iter body [] pos) (ts C W P (sForI im g ms)) := (ps_for hp hc hi hg hb hs).imp fun _ _ _ h => for_run h
theorem psm_while (n : Nat) (hp : PassesOwn (model X.prog X.w) X.A X.env X.xe) (hc : PT X c (tt C W tm)) (hb : PSs X body (ts C W P ms)) : PS X (.While c body [] pos) (ts C W P (sWhile tm ms n)) := (ps_while hp hc hb).imp fun _ _ _ h => while_run h
end
end Mi
set_option Elab.async false
set_option linter.all false
set_option maxRecDepth 100000
set_option maxHeartbeats 2000000
namespace Mi
open PySem PySem.Spec PyProof.Rows L2
inductive CR where
  | ok (o : O) (outs : List (Option O))
  | ex (x : Ex) (outs : List (Option O))
abbrev DS := List O → Option CR
def Kc (C : Ct) (G H : Hp) (fp : List Addr) (vs : List V) (Q : VK) (E : XK) : Option CR → Prop
  | none => False
  | some (.ok o outs) => ∀ (G' H' : Hp) (v : V) (fv fq : List Addr), Mv G H fp G' H' (fv ++ fq) → Ok C G' H' (fv ++ fq) → RO C G' H' v o fv → RE C G' H' (vs.map some) outs fq → Q v H'
  | some (.ex x outs) => ∀ (G' H' : Hp) (fq : List Addr) (cls : Value) (d : Option Addr), Mv G H fp G' H' fq → Ok C G' H' fq → RE C G' H' (vs.map some) outs fq → RX C x cls d H' → E cls d H'
def spI (C : Ct) (n : Nat) (f : DS) : Sp := fun vs H Q E => ∃ (G : Hp) (fp : List Addr) (os : List O), os.length = n ∧ Ok C G H fp ∧ ROs C G H vs os fp ∧ Kc C G H fp vs Q E (f os)
structure FnG (P : Program) (w : World) (K : PySem.W.Frag) (mg : Str → Option Value) (base : Heap) (k : Nat) (f : Addr) (fd : FuncData) (ps : List Str) (sp : Sp) : Prop where
  len : ∀ vs H Q E, sp vs H Q E → vs.length = ps.length
  run : ∀ (A : Around) (outer : List PySem.Env) (s : Shared) (H : Hp) (args : Args) (us : List Value) (vs : List V) (Q : VK) (E : XK), A.guards = some [] → Room k A → Env0 P w K mg base A outer s H → BindsTo s fd args (ps.zip us) → Vals vs us → sp vs H Q E →
    codeAny (model P w) A (.call (.ref f) args) (L2.CR (L2.CX P w) outer P w H s Q E) s
theorem FnG.mono {P : Program} {w : World} {K : PySem.W.Frag} {mg : Str → Option Value} {base : Heap} {j k : Nat} {f : Addr} {fd : FuncData} {ps : List Str} {sp : Sp} (F : FnG P w K mg base j f fd ps sp) (h : j ≤ k) : FnG P w K mg base k f fd ps sp :=
  ⟨F.len, fun A outer s H args us vs Q E hg hr => F.run A outer s H args us vs Q E hg (hr.mono h)⟩
theorem fn_ofG {P : Program} {w : World} {K : PySem.W.Frag} {mg : Str → Option Value} {base : Heap} {k : Nat} {f : Addr} {name qual : Str} {params : Arguments} {body : List Stmt} {scope : Scope} {dV kV doc pm cdv ct oc : Value} {an od : Option Addr}
    {osl : Array (Option Value)} {N ps : List Str} {sp : Sp} (lk : K.lookup f = some ⟨oc, od, .func (PySem.W.fnOf name qual params body scope dV kV doc pm an cdv ct), osl⟩) (hcd : PySem.W.codeIn K cdv qual = true) (S : FnScope N ps scope)
    (len : ∀ vs H Q E, sp vs H Q E → vs.length = ps.length)
    (hbody : ∀ (A : Around) (outer : List PySem.Env) (s : Shared) (H : Hp) (vs : List V) (Q : VK) (E : XK), A.guards = some [] → Room k (A.deeper (envOfC qual scope s.heap.objs.size f cdv)) → sp vs H Q E →
      ∃ t, PSs (cxOf (L2.CX P w) P w K mg base N qual scope f cdv A outer s H E) body t ∧ t { nx := fun _ H' => Q .non H', rt := Q } (L2.start N vs) H) :
    FnG P w K mg base (k + 1) f (PySem.W.fnOf name qual params body scope dV kV doc pm an cdv ct) ps sp := by
  refine ⟨len, fun A outer s H args us vs Q E hg hr e0 hb r hsp => ?_⟩
  exact LamX.run_ofS lk hcd S hr e0 hb r (len _ _ _ _ hsp) fun hr' => hbody A outer s H vs Q E hg hr' hsp
section
variable {X : Cx} {k : Nat} {f : Addr} {fd : FuncData} {ps : List Str} {sp : Sp} {E : XK} {x : Str} {p pos : Pos} {e : Expr} {es : List Expr} {t : TA}
theorem run_fnG {pins : List (Addr × Obj)} {σ : L2.St} {H : Hp} {s : Shared} {Q : VK} {us : List Value} {vs : List V} (hA : X.A.guards = some []) (F : FnG X.prog X.w X.K X.mg X.base k f fd ps sp) (hr : Room k X.A) (hb : Binds X.K fd ps [])
    (hx : ∀ (H' : Hp) (s' : Shared) (e : Value), Inv X pins σ H' s → L2.CX X.prog X.w X.stack H s E e s' → X.xe e s') (I : Inv X pins σ H s) (r : Vals vs us) (h : sp vs H Q E) : wpAny (model X.prog X.w) X.A (call (.ref f) us) (EP X pins σ Q) X.xe s := by
  have hl : us.length = ps.length := by rw [← r.length]; exact F.len _ _ _ _ h
  have hb2 := hb s us I.kIn (by rw [List.append_nil]; exact hl)
  rw [List.append_nil] at hb2
  refine wpAny_call (codeAny_mono (F.run X.A X.stack s H ⟨us, []⟩ us vs Q E hA hr I.env0 hb2 r h) fun r s' hq => ?_)
  cases r with
  | error e => exact hx H s' e I hq
  | ok fl =>
    cases fl with
    | ret u => exact I.after hq
    | next => exact False.elim hq
    | brk => exact False.elim hq
    | cont => exact False.elim hq
theorem pe_callG {W : WX} (hA : X.A.guards = some []) (tk : Takes X W) (F : FnG X.prog X.w X.K X.mg X.base k f fd ps sp) (hr : Room k X.A) (hg : Gl X x) (hm : X.mg x = some (.ref f)) (hk : PySem.W.keepIn X.K (.ref f) = true) (hb : Binds X.K fd ps [])
    (ha : PA X (e :: es) t) (hdb : (x == ("__debug__" : Str)) = false := by decide) (he : starEach (e :: es) X.env = (false, eval e X.env) :: starEach es X.env := by rfl) (hpl : (backTo pos (starEach es X.env)).any (·.1) = false := by rfl) :
    PE X (.Call (.Name x p) (e :: es) [] pos) (tCallS sp (WE W) t) := by
  refine ⟨fun pins s σ H Q I h => ?_⟩
  refine wpAny_Call_Name_kw (ld_glob I hg hm ?_ hdb)
  refine PySem.W.callWith_K (h₀ := X.base) I.ok.mod.kin hk (thn (ha.run pos pins s σ H _ I h) fun us s1 ⟨vs, H1, I1, r, q⟩ => ⟨I1.kIn, ?_⟩) he hpl
  exact run_fnG hA F hr hb (fun H' s' e I c => passAt tk σ pins H1 s1 e s' I1 c) I1 r q
theorem pe_callG0 {W : WX} (hA : X.A.guards = some []) (tk : Takes X W) (F : FnG X.prog X.w X.K X.mg X.base k f fd ps sp) (hr : Room k X.A) (hg : Gl X x) (hm : X.mg x = some (.ref f)) (hk : PySem.W.keepIn X.K (.ref f) = true) (hb : Binds X.K fd ps [])
    (hdb : (x == ("__debug__" : Str)) = false := by decide) : PE X (.Call (.Name x p) [] [] pos) (tCallS sp (WE W) tNil) := by
  refine ⟨fun pins s σ H Q I h => ?_⟩
  refine wpAny_Call_Name_kw (ld_glob I hg hm ?_ hdb)
  exact PySem.W.callWith_K0 I.kIn hk (run_fnG (us := []) hA F hr hb (fun H' s' e I' c => passAt tk σ pins H s e s' I c) I .nil h)
end
def takeAll : List Lz → Env → Option (List O × Env)
  | [], e => some ([], e)
  | .val x :: ls, e => match takeAll ls e with
    | some (os, e') => some (.f x :: os, e')
    | none => none
  | .loc i :: ls, e => match e[i]? with
    | some (some o) => (match takeAll ls (e.set i none) with
      | some (os, e') => some (o :: os, e')
      | none => none)
    | _ => none
  | .fld _ _ :: _, _ => none
def putAll : List Lz → List (Option O) → Env → Env
  | .loc i :: ls, some o :: outs, e => putAll ls outs (e.set i (some o))
  | _ :: ls, _ :: outs, e => putAll ls outs e
  | _, _, e => e
def mCall (f : DS) (as : List Opd) : M O := fun env => match mArgs as env with
  | some (.ok ls e) => (match takeAll ls e with
    | some (os, e') => (match f os with
      | some (.ok o outs) => some (.ok o (putAll ls outs e'))
      | some (.ex x outs) => some (.ex x (putAll ls outs e'))
      | none => none)
    | none => none)
  | some (.ex x e) => some (.ex x e)
  | none => none
section
variable {C : Ct} {W : WX} {σ : L2.St} {G H G' H' : Hp} {fp fq : List Addr} {env : Env}
theorem take_all : ∀ {ls : List Lz} {vs : List V} {env e' : Env} {os : List O} {fp : List Addr}, LzRs C G H σ vs ls → RE C G H σ env fp → fp.Nodup → takeAll ls env = some (os, e') →
    ∃ fa fr, ROs C G H vs os fa ∧ RE C G H σ e' fr ∧ (fa ++ fr).Nodup ∧ ∀ a ∈ fa ++ fr, a ∈ fp
  | [], _, env, e', os, fp, .nil, re, nd, e => by
    cases e
    exact ⟨[], fp, .nil, re, nd, fun _ h => h⟩
  | .val x :: ls, _, env, e', os, fp, .cons h1 h2, re, nd, e => by
    have e : (match takeAll ls env with | some (os, e') => some (O.f x :: os, e') | none => none) = some (os, e') := e
    cases q : takeAll ls env with
    | none => rw [q] at e; cases e
    | some z =>
      obtain ⟨os1, e1⟩ := z
      rw [q] at e
      cases e
      obtain ⟨fa, fr, a, b, c, d⟩ := take_all h2 re nd q
      cases h1 with
      | val h1 => exact ⟨[] ++ fa, fr, .cons (.f h1) a, b, c, d⟩
  | .loc i :: ls, _, env, e', os, fp, .cons (v := v) h1 h2, re, nd, e => by
    have e : (match env[i]? with | some (some o) => (match takeAll ls (env.set i none) with | some (os, e') => some (o :: os, e') | none => none) | _ => none) = some (os, e') := e
    cases q0 : env[i]? with
    | none => rw [q0] at e; cases e
    | some z =>
      cases z with
      | none => rw [q0] at e; cases e
      | some o =>
        rw [q0] at e
        dsimp only at e
        cases q : takeAll ls (env.set i none) with
        | none => rw [q] at e; cases e
        | some z =>
          obtain ⟨os1, e1⟩ := z
          rw [q] at e
          cases e
          obtain ⟨v', f1, f, f2, g1, g2, g3, g4⟩ := re.get q0
          cases h1 with
          | loc h1 =>
            rw [g1] at h1
            cases h1
            have re2 : RE C G H (σ.set i (some v)) (env.set i none) (f1 ++ ([] ++ f2)) := g4 (fun _ _ h => h) (fun _ _ _ h _ => h) (.inl ⟨rfl, rfl⟩)
            have es : σ.set i (some v) = σ := by
              rw [List.getElem?_eq_some_iff] at g1
              obtain ⟨_, e⟩ := g1
              conv => lhs; rw [← e]
              exact List.set_getElem_self _
            rw [es] at re2
            have p : fp.Perm (f ++ (f1 ++ f2)) := by
              rw [g2, ← List.append_assoc, ← List.append_assoc]
              exact List.Perm.append_right f2 List.perm_append_comm
            have nd2 := (p.nodup_iff).mp nd
            obtain ⟨fa, fr, a, b, c, d⟩ := take_all h2 re2 (List.nodup_append.mp nd2).2.1 q
            refine ⟨f ++ fa, fr, .cons g3 a, b, ?_, fun x hx => ?_⟩
            · rw [List.append_assoc]
              refine List.nodup_append.mpr ⟨(List.nodup_append.mp nd2).1, c, fun x hx y hy z => ?_⟩
              subst z
              exact (List.nodup_append.mp nd2).2.2 x hx x (d x hy) rfl
            · rw [List.append_assoc] at hx
              rcases List.mem_append.mp hx with hx | hx
              · exact p.mem_iff.mpr (List.mem_append_left _ hx)
              · exact p.mem_iff.mpr (List.mem_append_right _ (d x hx))
  | .fld i k :: ls, _, env, e', os, fp, _, _, _, e => by cases e
theorem put_all : ∀ {ls : List Lz} {vs : List V} {env : Env} {outs : List (Option O)} {fq fr : List Addr}, LzRs C G' H' σ vs ls → RE C G H (vs.map some) outs fq → RE C G H σ env fr → (fq ++ fr).Nodup →
    ∃ fs, RE C G H σ (putAll ls outs env) fs ∧ fs.Nodup ∧ ∀ a ∈ fs, a ∈ fq ++ fr
  | [], _, env, outs, fq, fr, .nil, r1, r2, nd => ⟨fr, by cases outs <;> exact r2, (List.nodup_append.mp nd).2.1, fun a h => List.mem_append_right _ h⟩
  | l :: ls, _, env, [], fq, fr, .cons h1 h2, r1, r2, nd => by cases r1
  | l :: ls, _, env, none :: outs, fq, fr, .cons h1 h2, r1, r2, nd => by
    cases r1 with
    | no r1 =>
      have e : putAll (l :: ls) (none :: outs) env = putAll ls outs env := by cases l <;> rfl
      rw [e]
      exact put_all h2 r1 r2 nd
  | .val x :: ls, _, env, some o :: outs, fq, fr, .cons h1 h2, r1, r2, nd => by
    cases r1 with
    | so a r1 =>
      rename_i f g
      have e : putAll (.val x :: ls) (some o :: outs) env = putAll ls outs env := rfl
      rw [e]
      rw [List.append_assoc] at nd
      obtain ⟨fs, b, c, d⟩ := put_all h2 r1 r2 (List.nodup_append.mp nd).2.1
      exact ⟨fs, b, c, fun a ha => by rw [List.append_assoc]; exact List.mem_append_right _ (d a ha)⟩
  | .fld i k :: ls, _, env, some o :: outs, fq, fr, .cons h1 h2, r1, r2, nd => by
    cases r1 with
    | so a r1 =>
      rename_i f g
      have e : putAll (.fld i k :: ls) (some o :: outs) env = putAll ls outs env := rfl
      rw [e]
      rw [List.append_assoc] at nd
      obtain ⟨fs, b, c, d⟩ := put_all h2 r1 r2 (List.nodup_append.mp nd).2.1
      exact ⟨fs, b, c, fun a ha => by rw [List.append_assoc]; exact List.mem_append_right _ (d a ha)⟩
  | .loc i :: ls, _, env, some o :: outs, fq, fr, .cons (v := v) h1 h2, r1, r2, nd => by
    cases r1 with
    | so a r1 =>
      rename_i f g
      have e : putAll (.loc i :: ls) (some o :: outs) env = putAll ls outs (env.set i (some o)) := rfl
      rw [e]
      cases h1 with
      | loc h1 =>
        have hi : i < env.length := by
          rw [← r2.length]
          exact (List.getElem?_eq_some_iff.mp h1).1
        obtain ⟨f1, f0, f2, e0, h⟩ := r2.at hi
        have re2 := h (v' := some v) (o' := some o) (f' := f) (fun _ _ h => h) (fun _ _ _ h _ => h) (.inr ⟨v, o, rfl, rfl, a⟩)
        have es : σ.set i (some v) = σ := by
          rw [List.getElem?_eq_some_iff] at h1
          obtain ⟨_, e⟩ := h1
          conv => lhs; rw [← e]
          exact List.set_getElem_self _
        rw [es] at re2
        have p : ((f ++ g) ++ fr).Perm (f0 ++ (g ++ (f1 ++ (f ++ f2)))) := by
          rw [e0]
          have : ∀ a : Addr, List.count a ((f ++ g) ++ (f1 ++ (f0 ++ f2))) = List.count a (f0 ++ (g ++ (f1 ++ (f ++ f2)))) := fun a => by
            simp only [List.count_append]; omega
          exact List.perm_iff_count.mpr this
        have nd2 := (p.nodup_iff).mp nd
        obtain ⟨fs, b, c, d⟩ := put_all h2 r1 re2 (List.nodup_append.mp nd2).2.1
        exact ⟨fs, b, c, fun x hx => p.mem_iff.mpr (List.mem_append_right _ (d x hx))⟩
theorem call_run {f : DS} {n : Nat} {as : List Opd} {Q : VK} (h : te C W (mCall f as) σ H Q) (hn : as.length = n) : tCallS (spI C n f) (WE W) (tAs C W as) σ H Q := by
  obtain ⟨G, fp, env, ok, re, h⟩ := h
  refine args_run ok re ?_
  unfold mCall at h
  cases q : mArgs as env with
  | none => simp only [q] at h; exact (show False from h).elim
  | some z =>
    cases z with
    | ex x e => simp only [q] at h; exact h
    | ok ls e =>
      simp only [q] at h
      intro G1 H1 vs f1 m1 ok1 re1 l1
      cases q1 : takeAll ls e with
      | none => simp only [q1] at h; exact (show False from h).elim
      | some z =>
        obtain ⟨os, e'⟩ := z
        simp only [q1] at h
        obtain ⟨fa, fr, ro, re', nd, mem⟩ := take_all l1 re1 ok1.nd q1
        have own : ∀ a ∈ fr, ∃ u, H1 a = some u ∧ Nt u := re'.own
        have oka : Ok C G1 H1 (fr ++ fa) := ok1.sub_of (List.perm_append_comm.nodup_iff.mp nd) fun a ha => mem a (by simp only [List.mem_append] at ha ⊢; exact ha.symm)
        have mva : Mv G H fp G1 H1 (fr ++ fa) := m1.weak fun a ha => mem a (by simp only [List.mem_append] at ha ⊢; exact ha.symm)
        have nd2 : (fr ++ fa).Nodup := oka.nd
        refine ⟨G1, fa, os, ?_, oka.sub_of (List.nodup_append.mp nd2).2.1 fun a ha => List.mem_append_right _ ha, ro, ?_⟩
        · rw [← ro.length, ← hn]
          have : ∀ {as : List Opd} {env e : Env} {ls : List Lz}, mArgs as env = some (.ok ls e) → ls.length = as.length := by
            intro as
            induction as with
            | nil => intro env e ls h; cases h; rfl
            | cons a as ih =>
              intro env e ls h
              cases a with
              | loc i =>
                have h : (match env[i]? with | some (some _) => rMap (Lz.loc i :: ·) (mArgs as env) | _ => none) = some (R.ok ls e) := h
                split at h
                · cases q : mArgs as env with
                  | none => rw [q] at h; cases h
                  | some z => cases z with
                    | ok l1 e1 => rw [q] at h; cases h; simp [ih q]
                    | ex _ _ => rw [q] at h; cases h
                · cases h
              | fld i k =>
                have h : (match env[i]? with | some (some (.i _ os)) => if as.all Opd.calm && decide (k < os.length) then rMap (Lz.fld i k :: ·) (mArgs as env) else none | _ => none) = some (R.ok ls e) := h
                split at h
                · split at h
                  · cases q : mArgs as env with
                    | none => rw [q] at h; cases h
                    | some z => cases z with
                      | ok l1 e1 => rw [q] at h; cases h; simp [ih q]
                      | ex _ _ => rw [q] at h; cases h
                  · cases h
                · cases h
              | e m =>
                have h : (match m env with | some (.ok o e) => rMap (Lz.val o.fz :: ·) (mArgs as e) | some (.ex x e) => some (.ex x e) | none => none) = some (R.ok ls e) := h
                split at h
                · rename_i o e1 _
                  cases q : mArgs as e1 with
                  | none => rw [q] at h; cases h
                  | some z => cases z with
                    | ok l1 e1 => rw [q] at h; cases h; simp [ih q]
                    | ex _ _ => rw [q] at h; cases h
                · cases h
                · cases h
          have lv : ∀ {vs : List V} {ls : List Lz}, LzRs C G1 H1 σ vs ls → vs.length = ls.length := by
            intro vs ls h
            induction h with
            | nil => rfl
            | cons _ _ ih => simp [ih]
          rw [lv l1, this q]
        · cases q2 : f os with
          | none => simp only [q2] at h; exact (show False from h).elim
          | some z =>
            cases z with
            | ok o outs =>
              simp only [q2] at h
              intro G2 H2 v fv f2 m2 ok2 ro2 re2
              have re3 : RE C G2 H2 σ e' fr := re'.mv m2.gs fun a ha u hu hn => m2.fr a u hu (fun z => (List.nodup_append.mp nd2).2.2 a ha a z rfl) hn
              have m3 := Mv.seq mva m2
              have ok3 := oka.seq m2 ok2 own
              have nd3 : (f2 ++ fr).Nodup := by
                have := ok3.nd
                have p : (fr ++ (fv ++ f2)).Perm (fv ++ (f2 ++ fr)) := List.perm_iff_count.mpr fun a => by simp only [List.count_append]; omega
                exact (List.nodup_append.mp (p.nodup_iff.mp this)).2.1
              obtain ⟨fs, b, c, d⟩ := put_all l1 re2 re3 nd3
              have mem3 : ∀ a ∈ fv ++ fs, a ∈ fr ++ (fv ++ f2) := fun a ha => by
                simp only [List.mem_append] at ha ⊢
                rcases ha with x | x
                · simp [x]
                · have := d a x
                  simp only [List.mem_append] at this
                  rcases this with y | y <;> simp [y]
              refine h G2 H2 v fv fs (m3.weak mem3) (ok3.sub_of ?_ mem3) b ro2
              refine List.nodup_append.mpr ⟨(List.nodup_append.mp ok2.nd).1, c, fun x hx y hy z => ?_⟩
              subst z
              have := d x hy
              simp only [List.mem_append] at this
              rcases this with y | y
              · exact (List.nodup_append.mp ok2.nd).2.2 x hx x y rfl
              · exact (List.nodup_append.mp ok3.nd).2.2 x y x (List.mem_append_left _ hx) rfl
            | ex x outs =>
              simp only [q2] at h
              intro G2 H2 f2 cls d2 m2 ok2 re2 rx
              have re3 : RE C G2 H2 σ e' fr := re'.mv m2.gs fun a ha u hu hn => m2.fr a u hu (fun z => (List.nodup_append.mp nd2).2.2 a ha a z rfl) hn
              have m3 := Mv.seq mva m2
              have ok3 := oka.seq m2 ok2 own
              have nd3 : (f2 ++ fr).Nodup := List.perm_append_comm.nodup_iff.mp ok3.nd
              obtain ⟨fs, b, c, d⟩ := put_all l1 re2 re3 nd3
              have mem3 : ∀ a ∈ fs, a ∈ fr ++ f2 := fun a ha => by
                have := d a ha
                simp only [List.mem_append] at this ⊢
                exact this.symm
              exact h G2 H2 fs cls d2 (m3.weak mem3) (ok3.sub_of c mem3) b rx
end
def dOuts (P : Nat → Bool) (n : Nat) (e : Env) : List (Option O) := (List.range n).map fun i => if P i = true then e[i]?.join else none
def dSem (N n : Nat) (P : Nat → Bool) (m : MS) : DS := fun os => match m (os.map some ++ List.replicate (N - n) none) with
  | some (.nx e) => some (.ok (.p .none) (dOuts P n e))
  | some (.rt o e) => some (.ok o (dOuts P n e))
  | some (.ex x e) => some (.ex x (dOuts P n e))
  | _ => none
section
variable {C : Ct} {σ : L2.St} {G H : Hp} {fp : List Addr} {env : Env}
theorem start_re : ∀ {os : List O} {vs : List V} {f : List Addr} (m : Nat), ROs C G H vs os f → RE C G H (vs.map some ++ List.replicate m none) (os.map some ++ List.replicate m none) f
  | _, _, _, 0, .nil => .nil
  | _, _, _, m + 1, .nil => .no (start_re m .nil)
  | _, _, _, m, .cons a b => .so a (start_re m b)
theorem outs_re : ∀ {env : Env} {σ : L2.St} {fp : List Addr} (vs : List V) (p : Nat → Bool), RE C G H σ env fp → (∀ i, p i = true → ∀ v, vs[i]? = some v → σ[i]? = some (some v)) → vs.length ≤ env.length → fp.Nodup →
    ∃ fq, RE C G H (vs.map some) ((List.range vs.length).map fun i => if p i = true then env[i]?.join else none) fq ∧ fq.Nodup ∧ ∀ a ∈ fq, a ∈ fp
  | _, _, _, [], p, _, _, _, _ => ⟨[], .nil, List.nodup_nil, (fun _ h => nomatch h)⟩
  | _, _, _, v :: vs, p, .nil, _, hl, _ => by simp at hl
  | _, _, _, v :: vs, p, .no (v := w) (env := env) b, h, hl, nd => by
    obtain ⟨fq, r, n, m⟩ := outs_re vs (fun i => p (i + 1)) b (fun i hi v hv => by simpa using h (i + 1) hi v (by simpa using hv)) (by simpa using hl) nd
    refine ⟨fq, ?_, n, m⟩
    rw [List.length_cons, List.range_succ_eq_map, List.map_cons, List.map_cons, List.map_map]
    have e0 : (if p 0 = true then ((none : Option O) :: env)[0]?.join else none) = none := by split <;> rfl
    rw [e0]
    refine RE.no ?_
    simpa [Function.comp_def] using r
  | _, _, _, v :: vs, p, .so (v := w) (o := o) (env := env) (f := f) (g := g) a b, h, hl, nd => by
    obtain ⟨fq, r, n, m⟩ := outs_re vs (fun i => p (i + 1)) b (fun i hi v hv => by simpa using h (i + 1) hi v (by simpa using hv)) (by simpa using hl) (List.nodup_append.mp nd).2.1
    rw [List.length_cons, List.range_succ_eq_map, List.map_cons, List.map_cons, List.map_map]
    cases hp : p 0 with
    | false =>
      refine ⟨fq, ?_, n, fun a ha => List.mem_append_right _ (m a ha)⟩
      rw [if_neg Bool.false_ne_true]
      exact RE.no (by simpa [Function.comp_def] using r)
    | true =>
      have hv := h 0 hp v rfl
      cases hv
      refine ⟨f ++ fq, ?_, List.nodup_append.mpr ⟨(List.nodup_append.mp nd).1, n, fun x hx y hy z => (List.nodup_append.mp nd).2.2 x hx y (m y hy) z⟩, fun x hx => (List.mem_append.mp hx).elim (fun z => List.mem_append_left _ z) fun z => List.mem_append_right _ (m x z)⟩
      rw [if_pos rfl]
      exact RE.so a (by simpa [Function.comp_def] using r)
theorem body_run {W : WX} {E : XK} {N : List Str} {n : Nat} {P : Nat → Bool} {m : MS} {vs : List V} {Q : VK} (hn : n ≤ N.length) (hW : ∀ cls d σ H, E cls d H → W cls d σ H) (h : spI C n (dSem N.length n P m) vs H Q E) :
    ts C W P m { nx := fun _ H' => Q .non H', rt := Q } (L2.start N vs) H := by
  obtain ⟨G, fp, os, hl, ok, ro, h⟩ := h
  have hvl : vs.length = n := ro.length.trans hl
  have re : RE C G H (L2.start N vs) (os.map some ++ List.replicate (N.length - n) none) fp := by
    unfold L2.start
    rw [hvl]
    exact start_re _ ro
  have sl : (os.map some ++ List.replicate (N.length - n) (none : Option O)).length = N.length := by simp [hl]; omega
  have outs : ∀ {σ' : L2.St} {e : Env} {G' H' : Hp} {fv fq : List Addr}, RE C G' H' σ' e fq → Pin P (L2.start N vs) σ' → Ok C G' H' (fv ++ fq) →
      ∃ fs, RE C G' H' (vs.map some) (dOuts P n e) fs ∧ Ok C G' H' (fv ++ fs) ∧ ∀ a ∈ fv ++ fs, a ∈ fv ++ fq := by
    intro σ' e G' H' fv fq r p ok
    have el : e.length = N.length := by rw [← r.length, p.1, re.length, sl]
    obtain ⟨fs, a, b, c⟩ := outs_re (C := C) vs P r (fun i hi v hv => by
      rw [p.2 i hi]
      unfold L2.start
      have : i < vs.length := (List.getElem?_eq_some_iff.mp hv).1
      rw [List.getElem?_append_left (by simpa using this), List.getElem?_map, hv]
      rfl) (by omega) (List.nodup_append.mp ok.nd).2.1
    have e1 : dOuts P n e = (List.range vs.length).map fun i => if P i = true then e[i]?.join else none := by
      unfold dOuts
      rw [hvl]
    rw [← e1] at a
    have mem : ∀ a ∈ fv ++ fs, a ∈ fv ++ fq := fun x hx => (List.mem_append.mp hx).elim (fun z => List.mem_append_left _ z) fun z => List.mem_append_right _ (c x z)
    exact ⟨fs, a, ok.sub_of (List.nodup_append.mpr ⟨(List.nodup_append.mp ok.nd).1, b, fun x hx y hy z => (List.nodup_append.mp ok.nd).2.2 x hx y (c y hy) z⟩) mem, mem⟩
  refine ts_at ok re ?_
  unfold dSem at h
  cases q : m (os.map some ++ List.replicate (N.length - n) none) with
  | none => simp only [q] at h; exact (show False from h).elim
  | some z =>
    cases z with
    | bk e => simp only [q] at h; exact (show False from h).elim
    | ct e => simp only [q] at h; exact (show False from h).elim
    | nx e =>
      simp only [q] at h
      intro σ' G' H' fq mv ok' re' p
      obtain ⟨fs, a, b, c⟩ := outs (fv := []) re' p ok'
      exact h G' H' .non [] fs (mv.weak c) b (.f (.d .non)) a
    | rt o e =>
      simp only [q] at h
      intro σ' G' H' v fv fq mv ok' re' ro' p
      obtain ⟨fs, a, b, c⟩ := outs re' p ok'
      exact h G' H' v fv fs (mv.weak c) b ro' a
    | ex x e =>
      simp only [q] at h
      intro σ' G' H' fq cls d mv ok' re' rx p
      obtain ⟨fs, a, b, c⟩ := outs (fv := []) re' p ok'
      exact hW _ _ _ _ (h G' H' fs cls d (mv.weak c) b a rx)
end
end Mi
set_option Elab.async false
set_option linter.all false
set_option maxRecDepth 100000
set_option maxHeartbeats 2000000
namespace Mi
open PySem PySem.Spec PyProof.Rows L2
open PySem.W (alike dataLt)
def F.seq : F → Option (Bool × List F)
  | .d (.list ps) => some (false, ps.map .d)
  | .d (.tuple ps) => some (true, ps.map .d)
  | .l xs => some (false, xs)
  | .t xs => some (true, xs)
  | _ => none
def O.seq : O → Option (Bool × List F)
  | .f x => x.seq
  | .w ps => some (false, ps.map .d)
  | .l xs => some (false, xs)
  | _ => none
def pys : List F → Option (List PyData)
  | [] => some []
  | .d p :: xs => (match pys xs with
    | some ps => some (p :: ps)
    | none => none)
  | _ :: _ => none
def mkL (xs : List F) : O := match pys xs with
  | some ps => .w ps
  | none => .l xs
def mkT (xs : List F) : F := match pys xs with
  | some ps => .d (.tuple ps)
  | none => .t xs
theorem pys_map : ∀ ps : List PyData, pys (ps.map F.d) = some ps
  | [] => rfl
  | p :: ps => by
    show (match pys (ps.map F.d) with | some ps => some (p :: ps) | none => none) = _
    rw [pys_map ps]
theorem mkL_map (ps : List PyData) : mkL (ps.map F.d) = .w ps := by unfold mkL; rw [pys_map]
theorem mkT_map (ps : List PyData) : mkT (ps.map F.d) = .d (.tuple ps) := by unfold mkT; rw [pys_map]
section
variable {C : Ct} {G H G' H' : Hp}
theorem rfs_rep : ∀ {ps : List PyData} {vs : List V}, RepL C.K G vs ps → RFs C G vs (ps.map .d)
  | _, _, .nil => .nil
  | _, _, .cons a b => .cons (.d a) (rfs_rep b)
theorem pys_rep : ∀ {xs : List F} {ps : List PyData} {vs : List V}, RFs C G vs xs → pys xs = some ps → RepL C.K G vs ps
  | _, _, _, .nil, e => by cases e; exact .nil
  | _, _, _, .cons (x := x) (xs := xs) a b, e => by
    cases x with
    | d p =>
      have e : (match pys xs with | some ps => some (p :: ps) | none => none) = some _ := e
      cases q : pys xs with
      | none => rw [q] at e; cases e
      | some ps =>
        rw [q] at e
        cases e
        cases a with
        | d a => exact .cons a (pys_rep b q)
    | l _ => cases e
    | t _ => cases e
    | i _ _ => cases e
    | fn _ => cases e
    | x _ _ => cases e
    | s _ => cases e
theorem RO.mkL {a : Addr} {vs : List V} {xs : List F} (h : H a = some (.lst vs)) (r : RFs C G vs xs) : RO C G H (.ref a) (Mi.mkL xs) [a] := by
  unfold Mi.mkL
  cases q : pys xs with
  | none => exact .l h r
  | some ps => exact .w h (pys_rep r q)
theorem RF.mkT {a : Addr} {vs : List V} {xs : List F} (h : G a = some (.tup vs)) (r : RFs C G vs xs) : RF C G (.ref a) (Mi.mkT xs) := by
  unfold Mi.mkT
  cases q : pys xs with
  | none => exact .t h r
  | some ps => exact .d (.tup (.of h) (pys_rep r q))
def SqB (K : PySem.W.Frag) (H : Hp) (a : Addr) (vs : List V) : Bool → Prop
  | false => H a = some (.lst vs)
  | true => SqT K H a vs
theorem RF.seq {v : V} {x : F} {b : Bool} {xs : List F} (r : RF C G v x) (e : x.seq = some (b, xs)) : ∃ a vs, v = .ref a ∧ SqB C.K G a vs b ∧ RFs C G vs xs ∧ (b = true → RF C G v (Mi.mkT xs)) := by
  cases r with
  | d r =>
    cases r with
    | lst a r => cases e; exact ⟨_, _, rfl, a, rfs_rep r, (nomatch ·)⟩
    | tup a r => cases e; exact ⟨_, _, rfl, a, rfs_rep r, fun _ => by rw [mkT_map]; exact .d (.tup a r)⟩
    | _ => cases e
  | l a r => cases e; exact ⟨_, _, rfl, a, r, (nomatch ·)⟩
  | t a r => cases e; exact ⟨_, _, rfl, .of a, r, fun _ => .mkT a r⟩
  | _ => cases e
theorem SqB.sub {b : Bool} {a : Addr} {vs : List V} (h : SqB C.K G a vs b) (hs : ∀ a u, G a = some u → H a = some u) : SqB C.K H a vs b := by
  cases b with
  | false => exact hs _ _ h
  | true => exact sqt_sub hs h
theorem RO.seq {v : V} {o : O} {f : List Addr} {b : Bool} {xs : List F} (r : RO C G H v o f) (hs : ∀ a u, G a = some u → H a = some u) (e : o.seq = some (b, xs)) :
    ∃ a vs, v = .ref a ∧ SqB C.K H a vs b ∧ RFs C G vs xs ∧ (b = true → RF C G v (Mi.mkT xs)) := by
  cases r with
  | f r =>
    obtain ⟨a, vs, h1, h2, h3, h4⟩ := r.seq e
    exact ⟨a, vs, h1, h2.sub hs, h3, h4⟩
  | w a r => cases e; exact ⟨_, _, rfl, a, rfs_rep r, (nomatch ·)⟩
  | l a r => cases e; exact ⟨_, _, rfl, a, r, (nomatch ·)⟩
  | i _ _ _ _ => cases e
theorem SqB.any {K : PySem.W.Frag} {b : Bool} {a : Addr} {vs : List V} (h : SqB K H a vs b) : SqL K H a vs ∨ SqT K H a vs := by
  cases b with
  | false => exact .inl (.of h)
  | true => exact .inr h
theorem RFs.append : ∀ {vs ws : List V} {xs ys : List F}, RFs C G vs xs → RFs C G ws ys → RFs C G (vs ++ ws) (xs ++ ys)
  | _, _, _, _, .nil, h => h
  | _, _, _, _, .cons a b, h => .cons a (RFs.append b h)
theorem RFs.get : ∀ {vs : List V} {xs : List F} {i : Nat} {x : F}, RFs C G vs xs → xs[i]? = some x → ∃ v, vs[i]? = some v ∧ RF C G v x
  | _, _, i, _, .nil, e => by simp at e
  | _, _, 0, _, .cons a b, e => by simp at e; subst e; exact ⟨_, rfl, a⟩
  | _, _, i + 1, _, .cons a b, e => by simpa using RFs.get b (by simpa using e)
theorem RFs.drop : ∀ {vs : List V} {xs : List F} (n : Nat), RFs C G vs xs → RFs C G (vs.drop n) (xs.drop n)
  | _, _, 0, h => h
  | _, _, n + 1, .nil => .nil
  | _, _, n + 1, .cons _ b => RFs.drop n b
theorem RFs.take : ∀ {vs : List V} {xs : List F} (n : Nat), RFs C G vs xs → RFs C G (vs.take n) (xs.take n)
  | _, _, 0, _ => .nil
  | _, _, n + 1, .nil => .nil
  | _, _, n + 1, .cons a b => .cons a (RFs.take n b)
theorem RFs.rev : ∀ {vs : List V} {xs : List F}, RFs C G vs xs → RFs C G vs.reverse xs.reverse
  | _, _, .nil => .nil
  | _, _, .cons a b => by rw [List.reverse_cons, List.reverse_cons]; exact (RFs.rev b).append (.cons a .nil)
theorem RFs.rep {vs : List V} {xs : List F} (h : RFs C G vs xs) : ∀ n : Nat, RFs C G (List.replicate n vs).flatten (List.replicate n xs).flatten
  | 0 => .nil
  | n + 1 => by rw [List.replicate_succ, List.replicate_succ, List.flatten_cons, List.flatten_cons]; exact h.append (RFs.rep h n)
end
def Kq (C : Ct) (G H : Hp) (Q : VK) (r : O) : Prop := ∀ (G' H' : Hp) (v : V) (fv : List Addr), Ad G H G' H' fv → RO C G' H' v r fv → Q v H'
section
variable {C : Ct} {G H G' H' : Hp} {fp : List Addr} {Q : VK} {g g1 g2 : List O → Option O} {vs : List V}
theorem rOf_open (h : rOf C g vs H Q) : ∃ G fp os r, Ok C G H fp ∧ RAs C G H fp vs os ∧ g os = some r ∧ Kq C G H Q r := by
  obtain ⟨G, fp, os, ok, _, ra, h⟩ := h
  cases q : g os with
  | none => rw [q] at h; exact h.elim
  | some r => rw [q] at h; exact ⟨G, fp, os, r, ok, ra, q, h⟩
theorem Kq.f {x : F} {v : V} (h : Kq C G H Q (.f x)) (ok : Ok C G H fp) (r : RF C G v x) : Q v H := h G H v [] (Ad.refl ok) (.f r)
theorem Kq.lst {xs : List F} {vs : List V} {l : Addr} (h : Kq C G H Q (mkL xs)) (ok : Ok C G H fp) (r : RFs C G vs xs) (hl : H l = none) : Q (.ref l) (upd H l (.lst vs)) :=
  h G _ _ [l] (Ad.own ok hl) (RO.mkL upd_same r)
theorem Kq.tup {xs : List F} {vs : List V} {l : Addr} (h : Kq C G H Q (.f (mkT xs))) (ok : Ok C G H fp) (r : RFs C G vs xs) (hl : H l = none) : Q (.ref l) (upd H l (.tup vs)) := by
  have ad : Ad G H (upd G l (.tup vs)) (upd H l (.tup vs)) [] := Ad.still ok hl fun _ z => by cases z
  exact h _ _ _ [] ad (.f (RF.mkT upd_same (r.sub ad.gs)))
def gOr (g1 g2 : List O → Option O) : List O → Option O := fun os => match g1 os with
  | some r => some r
  | none => g2 os
theorem rOf_or (h : rOf C (gOr g1 g2) vs H Q) : rOf C g1 vs H Q ∨ rOf C g2 vs H Q := by
  obtain ⟨G, fp, os, ok, nn, ra, h⟩ := h
  unfold gOr at h
  cases q : g1 os with
  | some r => simp only [q] at h; exact .inl ⟨G, fp, os, ok, nn, ra, by rw [q]; exact h⟩
  | none => simp only [q] at h; exact .inr ⟨G, fp, os, ok, nn, ra, h⟩
theorem RAs.one {v : V} {os : List O} (h : RAs C G H fp [v] os) : ∃ o f, os = [o] ∧ RO C G H v o f := by
  cases h with
  | cons a _ b => cases b; exact ⟨_, _, rfl, a⟩
theorem RAs.two {v u : V} {os : List O} (h : RAs C G H fp [v, u] os) : ∃ o f p g, os = [o, p] ∧ RO C G H v o f ∧ RO C G H u p g := by
  cases h with
  | cons a _ b =>
    cases b with
    | cons b _ c => cases c; exact ⟨_, _, _, _, rfl, a, b⟩
end
section
variable {X : Cx} {C : Ct} {f : Value → Value → Sem Value} {fv : Value} {g g1 g2 : List O → Option O}
theorem om_or (h1 : OpM X C f g1) (h2 : OpM X C f g2) : OpM X C f (gOr g1 g2) := fun pins s σ H x y v u Q I rx ry h => (rOf_or h).elim (h1 pins s σ H x y v u Q I rx ry) (h2 pins s σ H x y v u Q I rx ry)
theorem cm_or (h1 : CallR X fv (rOf C g1)) (h2 : CallR X fv (rOf C g2)) : CallR X fv (rOf C (gOr g1 g2)) := fun pins s σ H xs us Q I r h => (rOf_or h).elim (h1 pins s σ H xs us Q I r) (h2 pins s σ H xs us Q I r)
theorem im_or (h1 : IxR X fun x y H Q => rOf C g1 [x, y] H Q) (h2 : IxR X fun x y H Q => rOf C g2 [x, y] H Q) : IxR X fun x y H Q => rOf C (gOr g1 g2) [x, y] H Q :=
  fun a b pins s σ H x y v u Q I rx ry h hs => (rOf_or h).elim (fun z => h1 a b pins s σ H x y v u Q I rx ry z hs) (fun z => h2 a b pins s σ H x y v u Q I rx ry z hs)
theorem om_imp {r : R2} (h : OpR X f r) (k : ∀ x y H Q, rOf C g [x, y] H Q → r x y H Q) : OpM X C f g := fun pins s σ H x y v u Q I rx ry q => h pins s σ H x y v u Q I rx ry (k x y H Q q)
theorem cm_imp {r : List V → Hp → VK → Prop} (h : CallR X fv r) (k : ∀ vs H Q, rOf C g vs H Q → r vs H Q) : CallR X fv (rOf C g) := fun pins s σ H xs us Q I r q => h pins s σ H xs us Q I r (k xs H Q q)
theorem im_imp {r : R2} (h : IxR X r) (k : ∀ x y H Q, rOf C g [x, y] H Q → r x y H Q) : IxR X fun x y H Q => rOf C g [x, y] H Q := fun a b pins s σ H x y v u Q I rx ry q => h a b pins s σ H x y v u Q I rx ry (k x y H Q q)
theorem un_imp {fu : Value → Sem Value} {r : V → Hp → VK → Prop} (h : UnR X fu r) (k : ∀ x H Q, rOf C g [x] H Q → r x H Q) : UnR X fu fun x H Q => rOf C g [x] H Q := fun pins s σ H x v Q I r q => h pins s σ H x v Q I r (k x H Q q)
end
def gI2 (r : Int → Int → Option PyData) : List O → Option O
  | [.f (.d (.int i)), .f (.d (.int j))] => (match r i j with
    | some d => some (.p d)
    | none => none)
  | _ => none
section
variable {X : Cx} {C : Ct} {f : Value → Value → Sem Value}
theorem gI2_open {r : Int → Int → Option PyData} {os : List O} {o : O} (e : gI2 r os = some o) : ∃ i j d, os = [.p (.int i), .p (.int j)] ∧ r i j = some d ∧ o = .p d := by
  unfold gI2 at e
  split at e
  · rename_i i j
    cases q : r i j with
    | none => simp only [q] at e; cases e
    | some d => simp only [q] at e; cases e; exact ⟨i, j, d, rfl, q, rfl⟩
  · cases e
theorem om_I {Cc : Int → Int → Prop} {gv : Int → Int → V} {r : Int → Int → Option PyData} (h : OpR X f (rI Cc gv)) (k : ∀ i j d, r i j = some d → Cc i j ∧ ∀ K G, Rep K G (gv i j) d) : OpM X C f (gI2 r) :=
  om_imp h fun x y H Q q => by
    obtain ⟨G, fp, os, o, ok, ra, e, kq⟩ := rOf_open q
    obtain ⟨i, j, d, rfl, er, rfl⟩ := gI2_open e
    obtain ⟨o1, f1, o2, f2, e2, r1, r2⟩ := ra.two
    cases e2
    obtain ⟨c, rp⟩ := k i j d er
    exact ⟨i, j, r1.int, r2.int, c, kq.f ok (.d (rp _ _))⟩
theorem rI0_I {gv : Int → Int → V} (h : OpR X f (rI0 gv)) : OpR X f (rI (fun _ _ => True) gv) := fun pins s σ H x y v u Q I rx ry ⟨i, j, a, b, _, q⟩ => h pins s σ H x y v u Q I rx ry ⟨i, j, a, b, q⟩
theorem om_I0 {gv : Int → Int → V} {r : Int → Int → Option PyData} (h : OpR X f (rI0 gv)) (k : ∀ i j d, r i j = some d → ∀ K G, Rep K G (gv i j) d) : OpM X C f (gI2 r) :=
  om_I (rI0_I h) fun i j d e => ⟨trivial, k i j d e⟩
def iAdd := gI2 fun i j => some (.int (i + j))
def iSub := gI2 fun i j => some (.int (i - j))
def iMul := gI2 fun i j => if i.natAbs.log2 + j.natAbs.log2 < 1000000 then some (.int (i * j)) else none
def iDiv := gI2 fun i j => if 0 < j ∧ j < 1073741824 then some (.int (i / j)) else none
def iMod := gI2 fun i j => if 0 < j then some (.int (i % j)) else none
def iPow := gI2 fun i j => if 0 ≤ j ∧ j ≤ 1000000 ∧ i.natAbs < 2 ^ 64 then some (.int (i ^ j.toNat)) else none
def iLt := gI2 fun i j => some (.bool (decide (i < j)))
def iLe := gI2 fun i j => some (.bool (decide (i ≤ j)))
def iGt := gI2 fun i j => some (.bool (decide (j < i)))
def iGe := gI2 fun i j => some (.bool (decide (j ≤ i)))
theorem om_iAdd : OpM X C (binaryOp .Add) iAdd := om_I0 op_add fun i j d e K G => by cases e; exact .int _
theorem om_iSub : OpM X C (binaryOp .Sub) iSub := om_I0 op_sub fun i j d e K G => by cases e; exact .int _
theorem om_iMul : OpM X C (binaryOp .Mult) iMul := om_I op_mulW fun i j d e => by
  split at e
  · rename_i h; cases e; exact ⟨h, fun K G => .int _⟩
  · cases e
theorem om_iDiv : OpM X C (binaryOp .FloorDiv) iDiv := om_I op_fdiv fun i j d e => by
  split at e
  · rename_i h; cases e; exact ⟨h, fun K G => .int _⟩
  · cases e
theorem om_iMod : OpM X C (binaryOp .Mod) iMod := om_I op_mod fun i j d e => by
  split at e
  · rename_i h; cases e; exact ⟨h, fun K G => .int _⟩
  · cases e
theorem om_iPow : OpM X C (binaryOp .Pow) iPow := om_I op_pow fun i j d e => by
  split at e
  · rename_i h; cases e; exact ⟨h, fun K G => .int _⟩
  · cases e
theorem om_iLt : OpM X C (compareOp .Lt) iLt := om_I0 op_lt fun i j d e K G => by cases e; exact .bl _
theorem om_iLe : OpM X C (compareOp .LtE) iLe := om_I0 op_le fun i j d e K G => by cases e; exact .bl _
theorem om_iGt : OpM X C (compareOp .Gt) iGt := om_I0 op_gt fun i j d e K G => by cases e; exact .bl _
theorem om_iGe : OpM X C (compareOp .GtE) iGe := om_I0 op_ge fun i j d e K G => by cases e; exact .bl _
def iNeg : List O → Option O
  | [.f (.d (.int i))] => some (.p (.int (-i)))
  | _ => none
theorem un_iNeg : UnR X (unaryOp .USub) fun x H Q => rOf C iNeg [x] H Q := un_imp un_neg fun x H Q q => by
  obtain ⟨G, fp, os, o, ok, ra, e, kq⟩ := rOf_open q
  obtain ⟨o1, f1, rfl, r1⟩ := ra.one
  unfold iNeg at e
  split at e
  · rename_i i q1
    cases q1
    cases e
    exact ⟨i, r1.int, kq.f ok (.d (.int _))⟩
  · cases e
end
section
variable {X : Cx} {pins : List (Addr × Obj)} {σ : L2.St} {H : Hp} {s : Shared}
mutual
theorem Rep.reads (I : Inv X pins σ H s) : ∀ {p : PyData} {v : V} {u : Value}, Rep X.K H v p → RelV v u → ∃ as, Reads s.heap u p as ∧ ∀ a ∈ as, H a ≠ none
  | _, _, _, .non, r => by cases r; exact ⟨_, .none, (fun _ h => nomatch h)⟩
  | _, _, _, .bl b, r => by cases r; exact ⟨_, .bool b, (fun _ h => nomatch h)⟩
  | _, _, _, .int i, r => by obtain ⟨t, rfl⟩ := r; exact ⟨_, .int i t, (fun _ h => nomatch h)⟩
  | _, _, _, .str x, r => by obtain ⟨t, rfl⟩ := r; exact ⟨_, .str x t, (fun _ h => nomatch h)⟩
  | _, _, _, .lst a b, r => by
    cases r
    obtain ⟨its, rv, ⟨o, n, ho, hc, _, hd⟩, _⟩ := I.list (.of a)
    obtain ⟨as, hr, ht⟩ := RepL.reads I b rv
    exact ⟨_, Reads.list ho hc hd hr, fun x hx => (List.mem_cons.mp hx).elim (fun e => by rw [e, a]; simp) (ht x)⟩
  | _, _, _, .tup a b, r => by
    cases r
    obtain ⟨its, rv, ⟨o, ho, hc, n, hd⟩, _⟩ := I.tuple a
    obtain ⟨as, hr, ht⟩ := RepL.reads I b rv
    exact ⟨_, Reads.tuple ho hc hd hr, ht⟩
  | _, _, _, .emp a, r => by
    cases r
    obtain ⟨_, _, vs, kv, o, es, ep, ho, hc, hd, _, ps, _⟩ := I.hok _ _ a
    cases kv
    have : es.toList = [] := by cases hq : es.toList with
      | nil => rfl
      | cons _ _ => rw [hq] at ps; cases ps
    exact ⟨_, Reads.dict (kvs := []) ho hc.1 hd (by rw [this]; exact .nil) (by rw [this]; exact .nil), fun x hx => by
      simp only [List.append_nil, List.mem_singleton] at hx
      rw [hx, a]; simp⟩
theorem RepL.reads (I : Inv X pins σ H s) : ∀ {ps : List PyData} {vs : List V} {us : List Value}, RepL X.K H vs ps → Vals vs us → ∃ as, ReadsAll s.heap us ps as ∧ ∀ a ∈ as, H a ≠ none
  | _, _, _, .nil, r => by cases r; exact ⟨_, .nil, (fun _ h => nomatch h)⟩
  | _, _, _, .cons a b, r => by
    cases r with
    | cons r1 r2 =>
      obtain ⟨as, q1, t1⟩ := Rep.reads I a r1
      obtain ⟨bs, q2, t2⟩ := RepL.reads I b r2
      exact ⟨_, .cons q1 q2, fun x hx => (List.mem_append.mp hx).elim (t1 x) (t2 x)⟩
end
end
def gD2 (r : PyData → PyData → Option PyData) : List O → Option O
  | [a, b] => (match a.py, b.py with
    | some p, some q => (match r p q with
      | some d => some (.p d)
      | none => none)
    | _, _ => none)
  | _ => none
def gD1 (r : PyData → Option PyData) : List O → Option O
  | [a] => (match a.py with
    | some p => (match r p with
      | some d => some (.p d)
      | none => none)
    | _ => none)
  | _ => none
inductive Fl : V → PyData → Prop
  | non : Fl .non .none
  | bl (b : Bool) : Fl (.bl b) (.bool b)
  | int (i : Int) : Fl (.int i) (.int i)
  | str (x : Str) : Fl (.str x) (.str x)
theorem Fl.rep {K : PySem.W.Frag} {G : Hp} {v : V} {p : PyData} (h : Fl v p) : Rep K G v p := by
  cases h with
  | non => exact .non
  | bl b => exact .bl b
  | int b => exact .int b
  | str b => exact .str b
section
variable {X : Cx} {C : Ct} {f : Value → Value → Sem Value} {fv : Value}
theorem om_D {r : PyData → PyData → Option PyData} (hK : C.K = X.K)
    (h : ∀ (pins : List (Addr × Obj)) (s : Shared) (σ : L2.St) (H : Hp) (v u : Value) (p q d : PyData) (as bs : List Addr) (Q : VK), Inv X pins σ H s → r p q = some d → Reads s.heap v p as → Reads s.heap u q bs → (∀ z, Fl z d → Q z H) →
      wpAny (model X.prog X.w) X.A (f v u) (EP X pins σ Q) X.xe s) : OpM X C f (gD2 r) := fun pins s σ H x y v u Q I rx ry h0 => by
  obtain ⟨G, fp, os, o, ok, ra, e, kq⟩ := rOf_open h0
  obtain ⟨o1, f1, o2, f2, rfl, r1, r2⟩ := ra.two
  unfold gD2 at e
  dsimp only at e
  cases q1 : o1.py with
  | none => rw [q1] at e; cases e
  | some p =>
    cases q2 : o2.py with
    | none => rw [q1, q2] at e; cases e
    | some q =>
      cases q3 : r p q with
      | none => rw [q1, q2] at e; simp only [q3] at e; cases e
      | some d =>
        rw [q1, q2] at e
        simp only [q3] at e
        cases e
        obtain ⟨as, a1, t1⟩ := Rep.reads I (hK ▸ r1.py ok.sub q1) rx
        obtain ⟨bs, a2, t2⟩ := Rep.reads I (hK ▸ r2.py ok.sub q2) ry
        exact h pins s σ H v u p q d as bs Q I q3 a1 a2 fun z hz => kq.f ok (.d hz.rep)
theorem cm_D {r : PyData → Option PyData} (hK : C.K = X.K)
    (h : ∀ (pins : List (Addr × Obj)) (s : Shared) (σ : L2.St) (H : Hp) (u : Value) (p d : PyData) (as : List Addr) (Q : VK), Inv X pins σ H s → r p = some d → Reads s.heap u p as → (∀ a ∈ as, H a ≠ none) → (∀ z, Fl z d → Q z H) →
      wpAny (model X.prog X.w) X.A (call fv [u]) (EP X pins σ Q) X.xe s) : CallR X fv (rOf C (gD1 r)) := fun pins s σ H xs us Q I rv h0 => by
  obtain ⟨G, fp, os, o, ok, ra, e, kq⟩ := rOf_open h0
  unfold gD1 at e
  split at e
  · rename_i o1
    cases ra with
    | cons r1 _ rn =>
      cases rn
      cases rv with
      | cons rv rn =>
        cases rn
        cases q1 : o1.py with
        | none => rw [q1] at e; cases e
        | some p =>
          cases q3 : r p with
          | none => rw [q1] at e; simp only [q3] at e; cases e
          | some d =>
            rw [q1] at e
            simp only [q3] at e
            cases e
            obtain ⟨as, a1, t1⟩ := Rep.reads I (hK ▸ r1.py ok.sub q1) rv
            exact h pins s σ H _ p d as Q I q3 a1 t1 fun z hz => kq.f ok (.d hz.rep)
  · cases e
def okD (p : PyData) : Bool := p.plain && decide (p.depth ≤ 60)
def dEq := gD2 fun p q => if okD p && okD q then some (.bool (PyData.eqv p q)) else none
def dNe := gD2 fun p q => if okD p && okD q then some (.bool (!PyData.eqv p q)) else none
def isIn (p : PyData) : PyData → Option Bool
  | .list xs => some (xs.any fun y => PyData.eqv y p)
  | .tuple xs => some (xs.any fun y => PyData.eqv y p)
  | _ => none
def dIn := gD2 fun p q => if okD p && okD q then (match isIn p q with | some b => some (.bool b) | none => none) else none
def dNotIn := gD2 fun p q => if okD p && okD q then (match isIn p q with | some b => some (.bool !b) | none => none) else none
def dLt := gD2 fun p q => if alike p q && okD p && !(PyData.eqv p .none) then some (.bool (dataLt p q)) else none
theorem okD_open {p : PyData} (h : okD p = true) : p.plain = true ∧ p.depth ≤ 60 := by
  unfold okD at h
  rw [Bool.and_eq_true] at h
  exact ⟨h.1, of_decide_eq_true h.2⟩
variable (hK : C.K = X.K) (hu : X.A.units + 64 < cLine)
include hK hu
theorem om_dEq : OpM X C (compareOp .Eq) dEq := om_D hK fun pins s σ H v u p q d as bs Q I e r1 r2 k => by
  split at e
  · rename_i h
    rw [Bool.and_eq_true] at h
    cases e
    obtain ⟨p1, p2⟩ := okD_open h.1
    obtain ⟨q1, q2⟩ := okD_open h.2
    exact PySem.SeqAt.eq_plain r1 r2 p1 q1 (by omega) ⟨.bl _, H, I, rfl, k _ (.bl _)⟩
  · cases e
theorem om_dNe : OpM X C (compareOp .NotEq) dNe := om_D hK fun pins s σ H v u p q d as bs Q I e r1 r2 k => by
  split at e
  · rename_i h
    rw [Bool.and_eq_true] at h
    cases e
    obtain ⟨p1, p2⟩ := okD_open h.1
    obtain ⟨q1, q2⟩ := okD_open h.2
    exact PySem.SeqAt.ne_plain r1 r2 p1 q1 (by omega) ⟨.bl _, H, I, rfl, k _ (.bl _)⟩
  · cases e
end
end Mi
set_option Elab.async false
set_option linter.all false
set_option maxRecDepth 100000
set_option maxHeartbeats 2000000
namespace Mi
open PySem PySem.Spec PyProof.Rows L2
open PySem.W (alike dataLt)
section
variable {X : Cx} {C : Ct}
section
variable (hK : C.K = X.K) (hu : X.A.units + 64 < cLine)
include hK hu
theorem om_dIn : OpM X C (compareOp .In) dIn := om_D hK fun pins s σ H v u p q d as bs Q I e r1 r2 k => by
  split at e
  · rename_i h
    rw [Bool.and_eq_true] at h
    obtain ⟨p1, p2⟩ := okD_open h.1
    obtain ⟨q1, q2⟩ := okD_open h.2
    unfold isIn at e
    cases q with
    | list xs =>
      cases e
      exact PySem.SeqAt.in_list_data r2 r1 q1 p1 (by omega) ⟨.bl _, H, I, rfl, k _ (.bl _)⟩
    | tuple xs =>
      cases e
      exact PySem.SeqAt.in_tuple_data r2 r1 q1 p1 (by omega) ⟨.bl _, H, I, rfl, k _ (.bl _)⟩
    | _ => cases e
  · cases e
theorem om_dNotIn : OpM X C (compareOp .NotIn) dNotIn := om_D hK fun pins s σ H v u p q d as bs Q I e r1 r2 k => by
  split at e
  · rename_i h
    rw [Bool.and_eq_true] at h
    obtain ⟨p1, p2⟩ := okD_open h.1
    obtain ⟨q1, q2⟩ := okD_open h.2
    unfold isIn at e
    cases q with
    | list xs =>
      cases e
      exact PySem.SeqAt.notIn_list_data r2 r1 q1 p1 (by omega) ⟨.bl _, H, I, rfl, k _ (.bl _)⟩
    | tuple xs =>
      cases e
      exact PySem.SeqAt.notIn_tuple_data r2 r1 q1 p1 (by omega) ⟨.bl _, H, I, rfl, k _ (.bl _)⟩
    | _ => cases e
  · cases e
theorem om_dLt : OpM X C (compareOp .Lt) dLt := om_D hK fun pins s σ H v u p q d as bs Q I e r1 r2 k => by
  split at e
  · rename_i h
    rw [Bool.and_eq_true, Bool.and_eq_true] at h
    obtain ⟨⟨h1, h2⟩, h3⟩ := h
    obtain ⟨p1, p2⟩ := okD_open h2
    cases e
    have hn : p ≠ .none := fun z => by subst z; rw [show PyData.eqv .none .none = true from PySem.SeqAt.eqv_refl_plain _ rfl] at h3; cases h3
    exact PySem.W.rcLt_alike p q X.A s v u as bs r1 r2 h1 hn (by omega) _ _ _ _ ⟨.bl _, H, I, rfl, k _ (.bl _)⟩
  · cases e
end
def sIn : List O → Option O
  | [.f (.d (.str i)), .f (.d (.str j))] => some (.p (.bool (!(Builtin.Str.occurrences j i 0 j.length 1).isEmpty)))
  | _ => none
def sNotIn : List O → Option O
  | [.f (.d (.str i)), .f (.d (.str j))] => some (.p (.bool (!(!(Builtin.Str.occurrences j i 0 j.length 1).isEmpty))))
  | _ => none
def sAdd : List O → Option O
  | [.f (.d (.str i)), .f (.d (.str j))] => if i.length + j.length ≤ sizeLine then some (.p (.str (i ++ j))) else none
  | _ => none
theorem om_sIn : OpM X C (compareOp .In) sIn := om_imp op_in_str fun x y H Q q => by
  obtain ⟨G, fp, os, o, ok, ra, e, kq⟩ := rOf_open q
  obtain ⟨o1, f1, o2, f2, rfl, r1, r2⟩ := ra.two
  unfold sIn at e
  split at e
  · rename_i i j z; cases z; cases e
    exact ⟨i, j, r1.str, r2.str, kq.f ok (.d (.bl _))⟩
  · cases e
theorem om_sNotIn : OpM X C (compareOp .NotIn) sNotIn := om_imp op_notin_str fun x y H Q q => by
  obtain ⟨G, fp, os, o, ok, ra, e, kq⟩ := rOf_open q
  obtain ⟨o1, f1, o2, f2, rfl, r1, r2⟩ := ra.two
  unfold sNotIn at e
  split at e
  · rename_i i j z; cases z; cases e
    exact ⟨i, j, r1.str, r2.str, kq.f ok (.d (.bl _))⟩
  · cases e
theorem om_sAdd : OpM X C (binaryOp .Add) sAdd := om_imp op_add_str fun x y H Q q => by
  obtain ⟨G, fp, os, o, ok, ra, e, kq⟩ := rOf_open q
  obtain ⟨o1, f1, o2, f2, rfl, r1, r2⟩ := ra.two
  unfold sAdd at e
  split at e
  · rename_i i j z; cases z
    split at e
    · rename_i h; cases e
      exact ⟨i, j, r1.str, r2.str, h, kq.f ok (.d (.str _))⟩
    · cases e
  · cases e
def isNo : O → Bool
  | .f (.d .none) => true
  | _ => false
def gIsN : List O → Option O
  | [o, .f (.d .none)] => some (.p (.bool (isNo o)))
  | _ => none
def gNotN : List O → Option O
  | [o, .f (.d .none)] => some (.p (.bool (!isNo o)))
  | _ => none
theorem RO.isNo {G H : Hp} {v : V} {o : O} {f : List Addr} (r : RO C G H v o f) : decide (v = .non) = Mi.isNo o := by
  cases r with
  | f r =>
    cases r with
    | d r => cases r <;> rfl
    | _ => rfl
  | _ => rfl
theorem om_isN : OpM X C (compareOp .Is) gIsN := om_imp op_isN fun x y H Q q => by
  obtain ⟨G, fp, os, o, ok, ra, e, kq⟩ := rOf_open q
  obtain ⟨o1, f1, o2, f2, rfl, r1, r2⟩ := ra.two
  unfold gIsN at e
  split at e
  · rename_i i z; cases z; cases e
    exact ⟨r2.non, by rw [r1.isNo]; exact kq.f ok (.d (.bl _))⟩
  · cases e
theorem om_notN : OpM X C (compareOp .IsNot) gNotN := om_imp op_notN fun x y H Q q => by
  obtain ⟨G, fp, os, o, ok, ra, e, kq⟩ := rOf_open q
  obtain ⟨o1, f1, o2, f2, rfl, r1, r2⟩ := ra.two
  unfold gNotN at e
  split at e
  · rename_i i z; cases z; cases e
    exact ⟨r2.non, by rw [r1.isNo]; exact kq.f ok (.d (.bl _))⟩
  · cases e
def gIsB : List O → Option O
  | [.f (.d (.bool a)), .f (.d (.bool b))] => some (.p (.bool (decide (a = b))))
  | _ => none
def gNotB : List O → Option O
  | [.f (.d (.bool a)), .f (.d (.bool b))] => some (.p (.bool (!decide (a = b))))
  | _ => none
theorem om_isB : OpM X C (compareOp .Is) gIsB := om_imp op_isBl fun x y H Q q => by
  obtain ⟨G, fp, os, o, ok, ra, e, kq⟩ := rOf_open q
  obtain ⟨o1, f1, o2, f2, rfl, r1, r2⟩ := ra.two
  unfold gIsB at e
  split at e
  · rename_i i j z; cases z; cases e
    exact ⟨i, j, r1.bool, r2.bool, kq.f ok (.d (.bl _))⟩
  · cases e
theorem om_notB : OpM X C (compareOp .IsNot) gNotB := om_imp op_notBl fun x y H Q q => by
  obtain ⟨G, fp, os, o, ok, ra, e, kq⟩ := rOf_open q
  obtain ⟨o1, f1, o2, f2, rfl, r1, r2⟩ := ra.two
  unfold gNotB at e
  split at e
  · rename_i i j z; cases z; cases e
    exact ⟨i, j, r1.bool, r2.bool, kq.f ok (.d (.bl _))⟩
  · cases e
def qAdd : List O → Option O
  | [a, b] => (match a.seq, b.seq with
    | some (false, xs), some (false, ys) => if xs.length + ys.length ≤ sizeLine then some (mkL (xs ++ ys)) else none
    | _, _ => none)
  | _ => none
def tAdd : List O → Option O
  | [a, b] => (match a.seq, b.seq with
    | some (true, xs), some (true, ys) => if xs.length + ys.length ≤ sizeLine then some (.f (mkT (xs ++ ys))) else none
    | _, _ => none)
  | _ => none
theorem om_qAdd : OpM X C (binaryOp .Add) qAdd := om_imp op_cat fun x y H Q q => by
  obtain ⟨G, fp, os, o, ok, ra, e, kq⟩ := rOf_open q
  obtain ⟨o1, f1, o2, f2, rfl, r1, r2⟩ := ra.two
  unfold qAdd at e
  dsimp only at e
  split at e
  · rename_i xs ys q1 q2
    split at e
    · rename_i h; cases e
      obtain ⟨a, vs, rfl, s1, p1, _⟩ := r1.seq ok.sub q1
      obtain ⟨b, ws, rfl, s2, p2, _⟩ := r2.seq ok.sub q2
      exact ⟨a, b, vs, ws, rfl, rfl, s1, s2, by rw [p1.length, p2.length]; exact h, fun p hp => kq.lst ok (p1.append p2) hp⟩
    · cases e
  · cases e
theorem RFs.nil_iff {G : Hp} {vs : List V} {xs : List F} (h : RFs C G vs xs) : vs = [] ↔ xs = [] := by
  cases h <;> simp
theorem om_tAdd (hK : C.K = X.K) : OpM X C (binaryOp .Add) tAdd := om_imp op_catA fun x y H Q q => by
  obtain ⟨G, fp, os, o, ok, ra, e, kq⟩ := rOf_open q
  obtain ⟨o1, f1, o2, f2, rfl, r1, r2⟩ := ra.two
  unfold tAdd at e
  dsimp only at e
  split at e
  · rename_i xs ys q1 q2
    split at e
    · rename_i h; cases e
      obtain ⟨a, vs, rfl, s1, p1, t1⟩ := r1.seq ok.sub q1
      obtain ⟨b, ws, rfl, s2, p2, t2⟩ := r2.seq ok.sub q2
      refine ⟨a, b, vs, ws, rfl, rfl, hK ▸ s1, hK ▸ s2, by rw [p1.length, p2.length]; exact h, fun z => ?_, fun _ z => ?_, fun _ _ p hp => kq.tup ok (p1.append p2) hp⟩
      · have := p1.nil_iff.mp z
        subst this
        exact kq.f ok (t2 rfl)
      · have := p2.nil_iff.mp z
        subst this
        rw [List.append_nil] at kq
        exact kq.f ok (t1 rfl)
    · cases e
  · cases e
def qMul : List O → Option O
  | [a, .f (.d (.int k))] => (match a.seq with
    | some (false, xs) => if -(2 ^ 63) ≤ k ∧ k < 2 ^ 63 ∧ xs.length * k.toNat ≤ sizeLine then some (mkL (List.replicate k.toNat xs).flatten) else none
    | _ => none)
  | _ => none
theorem om_qMul : OpM X C (binaryOp .Mult) qMul := om_imp op_rep fun x y H Q q => by
  obtain ⟨G, fp, os, o, ok, ra, e, kq⟩ := rOf_open q
  obtain ⟨o1, f1, o2, f2, rfl, r1, r2⟩ := ra.two
  unfold qMul at e
  split at e
  · rename_i a k z
    cases z
    split at e
    · rename_i xs q1
      split at e
      · rename_i h; cases e
        obtain ⟨a, vs, rfl, s1, p1, _⟩ := r1.seq ok.sub q1
        exact ⟨a, k, vs, rfl, r2.int, s1, h.1, h.2.1, by rw [p1.length]; exact h.2.2, fun p hp => kq.lst ok (p1.rep _) hp⟩
      · cases e
    · cases e
  · cases e
def qIx : List O → Option O
  | [a, .f (.d (.int k))] => (match a.seq with
    | some (_, xs) => (match atI xs k with
      | some x => some (.f x)
      | none => none)
    | _ => none)
  | _ => none
theorem atI_rfs {G : Hp} {vs : List V} {xs : List F} {k : Int} {x : F} (h : RFs C G vs xs) (e : atI xs k = some x) : ∃ v, atI vs k = some v ∧ RF C G v x := by
  unfold atI at e ⊢
  rw [h.length]
  cases q : ixN xs.length k with
  | none => rw [q] at e; cases e
  | some j => rw [q] at e; exact h.get e
theorem im_q (hK : C.K = X.K) : IxR X fun x y H Q => rOf C qIx [x, y] H Q := im_imp (ix_list.or ix_tup) fun x y H Q q => by
  obtain ⟨G, fp, os, o, ok, ra, e, kq⟩ := rOf_open q
  obtain ⟨o1, f1, o2, f2, rfl, r1, r2⟩ := ra.two
  unfold qIx at e
  split at e
  · rename_i a k z
    cases z
    split at e
    · rename_i b xs q1
      split at e
      · rename_i w q2; cases e
        obtain ⟨a, vs, rfl, s1, p1, _⟩ := r1.seq ok.sub q1
        obtain ⟨v, e1, rv⟩ := atI_rfs p1 q2
        rw [hK] at s1
        rcases s1.any with s | s
        · exact .inl ⟨a, vs, k, v, rfl, r2.int, s, e1, kq.f ok rv⟩
        · exact .inr ⟨a, vs, k, v, rfl, r2.int, s, e1, kq.f ok rv⟩
      · cases e
    · cases e
  · cases e
def sIx : List O → Option O
  | [.f (.d (.str z)), .f (.d (.int k))] => if z.length ≤ sizeLine then (match atI z.cps.toList k with
      | some c => some (.p (.str ⟨#[c]⟩))
      | none => none) else none
  | _ => none
theorem im_s : IxR X fun x y H Q => rOf C sIx [x, y] H Q := im_imp ix_str fun x y H Q q => by
  obtain ⟨G, fp, os, o, ok, ra, e, kq⟩ := rOf_open q
  obtain ⟨o1, f1, o2, f2, rfl, r1, r2⟩ := ra.two
  unfold sIx at e
  split at e
  · rename_i z k w
    cases w
    split at e
    · rename_i h
      split at e
      · rename_i c hc; cases e
        exact ⟨z, k, c, r1.str, r2.int, h, hc, kq.f ok (.d (.str _))⟩
      · cases e
    · cases e
  · cases e
def gLen : List O → Option O
  | [.f (.d (.str z))] => if z.length ≤ sizeLine then some (.p (.int z.length)) else none
  | [o] => (match o.seq with
    | some (_, xs) => some (.p (.int xs.length))
    | none => none)
  | _ => none
theorem cm_len (hK : C.K = X.K) : CallR X (.builtin "len") (rOf C gLen) := cm_imp call_len fun vs H Q q => by
  obtain ⟨G, fp, os, o, ok, ra, e, kq⟩ := rOf_open q
  unfold gLen at e
  split at e
  · rename_i z
    cases ra with
    | cons r1 _ rn =>
      cases rn
      split at e
      · rename_i h; cases e
        exact ⟨_, z.length, rfl, by rw [r1.str]; exact ⟨h, rfl⟩, kq.f ok (.d (.int _))⟩
      · cases e
  · rename_i o1 _
    cases ra with
    | cons r1 _ rn =>
      cases rn
      split at e
      · rename_i b xs q1; cases e
        obtain ⟨a, vs, rfl, s1, p1, _⟩ := r1.seq ok.sub q1
        rw [hK] at s1
        refine ⟨_, xs.length, rfl, ?_, kq.f ok (.d (.int _))⟩
        rcases s1.any with s | s
        · exact .inl ⟨vs, s, p1.length.symm⟩
        · exact .inr ⟨vs, s, p1.length.symm⟩
      · cases e
  · cases e
def gList : List O → Option O
  | [o] => (match o.seq with
    | some (_, xs) => some (mkL xs)
    | none => none)
  | _ => none
def gTuple : List O → Option O
  | [o] => (match o.seq with
    | some (_, xs) => some (.f (mkT xs))
    | none => none)
  | _ => none
theorem cm_list (hK : C.K = X.K) : CallR X (.type "list") (rOf C gList) := cm_imp call_list_of fun vs H Q q => by
  obtain ⟨G, fp, os, o, ok, ra, e, kq⟩ := rOf_open q
  unfold gList at e
  split at e
  · rename_i o1
    cases ra with
    | cons r1 _ rn =>
      cases rn
      split at e
      · rename_i b xs q1; cases e
        obtain ⟨a, vs, rfl, s1, p1, _⟩ := r1.seq ok.sub q1
        rw [hK] at s1
        exact ⟨a, vs, rfl, s1.any, fun p hp => kq.lst ok p1 hp⟩
      · cases e
  · cases e
theorem cm_tuple (hK : C.K = X.K) : CallR X (.type "tuple") (rOf C gTuple) := cm_imp call_tuple_of fun vs H Q q => by
  obtain ⟨G, fp, os, o, ok, ra, e, kq⟩ := rOf_open q
  unfold gTuple at e
  split at e
  · rename_i o1
    cases ra with
    | cons r1 _ rn =>
      cases rn
      split at e
      · rename_i b xs q1; cases e
        obtain ⟨a, vs, rfl, s1, p1, t1⟩ := r1.seq ok.sub q1
        cases b with
        | false => exact ⟨a, vs, rfl, .inl ⟨.of s1, fun p hp => kq.tup ok p1 hp⟩⟩
        | true => exact ⟨a, vs, rfl, .inr ⟨hK ▸ s1, kq.f ok (t1 rfl)⟩⟩
      · cases e
  · cases e
def bls : List F → Option (List Bool)
  | [] => some []
  | .d (.bool b) :: xs => (match bls xs with | some bs => some (b :: bs) | none => none)
  | _ => none
def intsF : List F → Option (List Int)
  | [] => some []
  | .d (.int b) :: xs => (match intsF xs with | some bs => some (b :: bs) | none => none)
  | _ => none
theorem bls_rfs {G : Hp} : ∀ {xs : List F} {vs : List V} {bs : List Bool}, RFs C G vs xs → bls xs = some bs → vs = bs.map V.bl
  | _, _, _, .nil, e => by cases e; rfl
  | x :: xs, _, _, .cons a b, e => by
    unfold bls at e
    split at e
    · cases ‹_ :: _ = _›
    · rename_i c ys w; cases w
      cases q : bls xs with
      | none => rw [q] at e; cases e
      | some bs =>
        rw [q] at e; cases e
        cases a with
        | d a => cases a; rw [bls_rfs b q]; rfl
    · cases e
theorem ints_rfs {G : Hp} : ∀ {xs : List F} {vs : List V} {bs : List Int}, RFs C G vs xs → intsF xs = some bs → vs = bs.map V.int
  | _, _, _, .nil, e => by cases e; rfl
  | x :: xs, _, _, .cons a b, e => by
    unfold intsF at e
    split at e
    · cases ‹_ :: _ = _›
    · rename_i c ys w; cases w
      cases q : intsF xs with
      | none => rw [q] at e; cases e
      | some bs =>
        rw [q] at e; cases e
        cases a with
        | d a => cases a; rw [ints_rfs b q]; rfl
    · cases e
def gAll : List O → Option O
  | [o] => (match o.seq with
    | some (false, xs) => (match bls xs with
      | some bs => some (.p (.bool (bs.all id)))
      | none => none)
    | _ => none)
  | _ => none
def gAny : List O → Option O
  | [o] => (match o.seq with
    | some (false, xs) => (match bls xs with
      | some bs => some (.p (.bool (bs.any id)))
      | none => none)
    | _ => none)
  | _ => none
def gSum : List O → Option O
  | [o] => (match o.seq with
    | some (false, xs) => (match intsF xs with
      | some bs => some (.p (.int bs.sum))
      | none => none)
    | _ => none)
  | _ => none
theorem cm_all (hc : X.calm = true) : CallR X (.builtin "all") (rOf C gAll) := cm_imp (cr_all hc) fun vs H Q q => by
  obtain ⟨G, fp, os, o, ok, ra, e, kq⟩ := rOf_open q
  unfold gAll at e
  split at e
  · rename_i o1
    cases ra with
    | cons r1 _ rn =>
      cases rn
      split at e
      · rename_i xs q1
        split at e
        · rename_i bs q2; cases e
          obtain ⟨a, vs, rfl, s1, p1, _⟩ := r1.seq ok.sub q1
          exact ⟨a, bs, rfl, .of (bls_rfs p1 q2 ▸ s1), kq.f ok (.d (.bl _))⟩
        · cases e
      · cases e
  · cases e
theorem cm_any (hc : X.calm = true) : CallR X (.builtin "any") (rOf C gAny) := cm_imp (cr_any hc) fun vs H Q q => by
  obtain ⟨G, fp, os, o, ok, ra, e, kq⟩ := rOf_open q
  unfold gAny at e
  split at e
  · rename_i o1
    cases ra with
    | cons r1 _ rn =>
      cases rn
      split at e
      · rename_i xs q1
        split at e
        · rename_i bs q2; cases e
          obtain ⟨a, vs, rfl, s1, p1, _⟩ := r1.seq ok.sub q1
          exact ⟨a, bs, rfl, .of (bls_rfs p1 q2 ▸ s1), kq.f ok (.d (.bl _))⟩
        · cases e
      · cases e
  · cases e
theorem cm_sum (hc : X.calm = true) : CallR X (.builtin "sum") (rOf C gSum) := cm_imp (cr_sum hc) fun vs H Q q => by
  obtain ⟨G, fp, os, o, ok, ra, e, kq⟩ := rOf_open q
  unfold gSum at e
  split at e
  · rename_i o1
    cases ra with
    | cons r1 _ rn =>
      cases rn
      split at e
      · rename_i xs q1
        split at e
        · rename_i bs q2; cases e
          obtain ⟨a, vs, rfl, s1, p1, _⟩ := r1.seq ok.sub q1
          exact ⟨a, bs, rfl, .of (ints_rfs p1 q2 ▸ s1), kq.f ok (.d (.int _))⟩
        · cases e
      · cases e
  · cases e
def gInt : List O → Option O
  | [.f (.d (.int i))] => some (.p (.int i))
  | [.f (.d (.bool b))] => some (.p (.int (if b then 1 else 0)))
  | _ => none
theorem cm_int : CallR X (.type "int") (rOf C gInt) := cm_imp call_int1 fun vs H Q q => by
  obtain ⟨G, fp, os, o, ok, ra, e, kq⟩ := rOf_open q
  unfold gInt at e
  split at e
  · cases e
    cases ra with
    | cons r1 _ rn => cases rn; exact .inl ⟨_, by rw [r1.int], kq.f ok (.d (.int _))⟩
  · cases e
    cases ra with
    | cons r1 _ rn => cases rn; exact .inr ⟨_, by rw [r1.bool], kq.f ok (.d (.int _))⟩
  · cases e
def gMin2 := gI2 fun i j => some (.int (if j < i then j else i))
def gMax2 := gI2 fun i j => some (.int (if j > i then j else i))
theorem cm_min2 (hc : X.calm = true) : CallR X (.builtin "min") (rOf C gMin2) := cm_imp (call_min2 hc) fun vs H Q q => by
  obtain ⟨G, fp, os, o, ok, ra, e, kq⟩ := rOf_open q
  obtain ⟨i, j, d, rfl, er, rfl⟩ := gI2_open e
  cases er
  cases ra with
  | cons r1 _ rn =>
    cases rn with
    | cons r2 _ rn => cases rn; exact ⟨i, j, by rw [r1.int, r2.int], kq.f ok (.d (.int _))⟩
theorem cm_max2 (hc : X.calm = true) : CallR X (.builtin "max") (rOf C gMax2) := cm_imp (call_max2 hc) fun vs H Q q => by
  obtain ⟨G, fp, os, o, ok, ra, e, kq⟩ := rOf_open q
  obtain ⟨i, j, d, rfl, er, rfl⟩ := gI2_open e
  cases er
  cases ra with
  | cons r1 _ rn =>
    cases rn with
    | cons r2 _ rn => cases rn; exact ⟨i, j, by rw [r1.int, r2.int], kq.f ok (.d (.int _))⟩
end
end Mi
set_option Elab.async false
set_option linter.all false
set_option maxRecDepth 100000
set_option maxHeartbeats 2000000
namespace Mi
open PySem PySem.Spec PyProof.Rows L2
open PySem.W (alike dataLt)
theorem te_mono {C : Ct} {W : WX} {m : M O} {σ : L2.St} {H : Hp} {Q R : VK} (h : te C W m σ H Q) (k : ∀ v H', Q v H' → R v H') : te C W m σ H R := by
  obtain ⟨G, fp, env, ok, re, h⟩ := h
  refine ⟨G, fp, env, ok, re, ?_⟩
  cases q : m env with
  | none => rw [q] at h; exact h
  | some z =>
    rw [q] at h
    cases z with
    | ex x e => exact h
    | ok o e => exact fun G' H' v fv fq m o r ro => k _ _ (h G' H' v fv fq m o r ro)
theorem tO_mono {C : Ct} {W : WX} {a : Opd} {σ : L2.St} {H : Hp} {Q R : VK} (h : tO C W a σ H Q) (k : ∀ v H', Q v H' → R v H') : tO C W a σ H R := by
  cases a with
  | loc i => obtain ⟨v, h1, h2⟩ := h; exact ⟨v, h1, k _ _ h2⟩
  | fld i j => obtain ⟨a, c, dx, fs, n, v, h1, h2, h3, h4⟩ := h; exact ⟨a, c, dx, fs, n, v, h1, h2, h3, k _ _ h4⟩
  | e m => exact te_mono h k
section
variable {X : Cx} {C : Ct}
def gRepr := gD1 fun p => if p.showable && decide (p.depth ≤ 60) && decide (p.shown.length ≤ sizeLine) then some (.str p.shown) else none
theorem cm_repr (hK : C.K = X.K) (hu : X.A.units + 64 < cLine) (hg : X.A.guards = some []) (hS : (X.base.get? sysModules).isSome = true) : CallR X (.builtin "repr") (rOf C gRepr) :=
  cm_D hK fun pins s σ H u p d as Q I e r t k => by
    split at e
    · rename_i h
      rw [Bool.and_eq_true, Bool.and_eq_true] at h
      cases e
      have h1 := h.1.1
      have h2 : p.depth ≤ 60 := of_decide_eq_true h.1.2
      have h3 : p.shown.length ≤ sizeLine := of_decide_eq_true h.2
      have hns : sysModules ∉ as := fun hm => by
        cases q : X.base.get? sysModules with
        | none => rw [q] at hS; cases hS
        | some o => exact t _ hm (I.bs _ _ q).2
      have kk := k (.str p.shown) (.str _)
      cases r with
      | none => exact PySem.P.repr_of_none ⟨.str "None", H, I.tok _, ⟨_, rfl⟩, kk⟩
      | bool b => exact PySem.P.repr_of_bool ⟨.str _, H, I.tok _, ⟨_, rfl⟩, kk⟩
      | int i t => exact PySem.P.repr_of_int (of_decide_eq_true h1) ⟨.str _, H, I.tok _, ⟨_, rfl⟩, kk⟩
      | str x t => exact PySem.P.repr_of_str ⟨.str _, H, I.tok _, ⟨_, rfl⟩, kk⟩ h3
      | list a b c d =>
        exact PySem.repr_of_reads' (.list a b c d) h1 (fun _ => hns) hg (by omega) (fun _ _ h => h) (fun h' u tk hk => ⟨.str _, H, I.kept hk, ⟨_, rfl⟩, kk⟩) h3
      | tuple a b c d =>
        exact PySem.repr_of_reads' (.tuple a b c d) h1 (fun _ => hns) hg (by omega) (fun _ _ h => h) (fun h' u tk hk => ⟨.str _, H, I.kept hk, ⟨_, rfl⟩, kk⟩) h3
      | dict a b c d e =>
        exact PySem.repr_of_reads' (.dict a b c d e) h1 (fun _ => hns) hg (by omega) (fun _ _ h => h) (fun h' u tk hk => ⟨.str _, H, I.kept hk, ⟨_, rfl⟩, kk⟩) h3
    · cases e
def rIs (C : Ct) (T : String) (f : PyData → Bool) : List V → Hp → VK → Prop := fun vs H Q => ∃ x, vs = [x, .ty T] ∧ rOf C (gD1 fun p => some (.bool (f p))) [x] H Q
theorem cm_is {T : String} {f : PyData → Bool} (hK : C.K = X.K)
    (h : ∀ (s : Shared) (v : Value) (p : PyData) (as : List Addr) (Q : Value → Shared → Prop), Reads s.heap v p as → (∀ tk, s.toks ≤ tk → Q (.bool (f p)) { s with toks := tk }) → wpAny (model X.prog X.w) X.A (call (.builtin "isinstance") [v, .type T]) Q X.xe s) :
    CallR X (.builtin "isinstance") (rIs C T f) := fun pins s σ H xs us Q I rv h0 => by
  obtain ⟨x, rfl, h0⟩ := h0
  obtain ⟨u, w, rfl, ru, rw⟩ := vals2 rv
  cases rw
  obtain ⟨G, fp, os, o, ok, ra, e, kq⟩ := rOf_open h0
  unfold gD1 at e
  obtain ⟨o1, f1, rfl, r1⟩ := ra.one
  dsimp only at e
  cases q1 : o1.py with
  | none => rw [q1] at e; cases e
  | some p =>
    rw [q1] at e
    cases e
    obtain ⟨as, a1, _⟩ := Rep.reads I (hK ▸ r1.py ok.sub q1) ru
    exact h s u p as _ a1 fun tk _ => ⟨.bl _, H, I.tok _, rfl, kq.f ok (.d (.bl _))⟩
theorem cm_isTuple (hK : C.K = X.K) : CallR X (.builtin "isinstance") (rIs C "tuple" PyData.isTuple) := cm_is hK fun _ _ _ _ _ r h => PySem.W.isinstance_tuple_data r h
theorem cm_isList (hK : C.K = X.K) : CallR X (.builtin "isinstance") (rIs C "list" PyData.isList) := cm_is hK fun _ _ _ _ _ r h => PySem.W.isinstance_list_data r h
theorem cm_isInt (hK : C.K = X.K) : CallR X (.builtin "isinstance") (rIs C "int" PyData.isInt) := cm_is hK fun _ _ _ _ _ r h => PySem.W.isinstance_int_data r h
theorem cm_isBool (hK : C.K = X.K) : CallR X (.builtin "isinstance") (rIs C "bool" PyData.isBool) := cm_is hK fun _ _ _ _ _ r h => PySem.W.isinstance_bool_data r h
theorem cm_isStr (hK : C.K = X.K) : CallR X (.builtin "isinstance") (rIs C "str" PyData.isStr) := cm_is hK fun _ _ _ _ _ r h => PySem.W.isinstance_str_data r h
theorem cm_isDict (hK : C.K = X.K) : CallR X (.builtin "isinstance") (rIs C "dict" PyData.isDict) := cm_is hK fun _ _ _ _ _ r h => PySem.W.isinstance_dict_data r h
theorem pm_isa {W : WX} {T : String} {x : Str} {f : PyData → Bool} {e : Expr} {oa : Opd} {p p2 pos : Pos} (hc : CallR X (.builtin "isinstance") (rIs C T f)) (hg : Gl X "isinstance") (hm : X.mg "isinstance" = none) (hgt : Gl X x) (hmt : X.mg x = none)
    (hvt : bootBuiltins x = some (.type T)) (ha : PE X e (tO C W oa)) (hn : x ≠ "__name__" := by decide) (hdb : (x == ("__debug__" : Str)) = false := by decide)
    (h1 : starEach [e, .Name x p2] X.env = (false, eval e X.env) :: starEach [.Name x p2] X.env := by rfl) (h2 : starEach [.Name x p2] X.env = (false, eval (.Name x p2) X.env) :: starEach [] X.env := by rfl)
    (hpl : (backTo pos (starEach [.Name x p2] X.env)).any (·.1) = false := by rfl) : PE X (.Call (.Name "isinstance" p) [e, .Name x p2] [] pos) (te C W (mAp (gD1 fun p => some (.bool (f p))) [oa])) :=
  (pe_callB hc hg hm (by decide +kernel) (pa_cons ha (pa_cons (pe_bltn (v := .ty T) hgt hmt hvt (show RelV (.ty T) (.type T) from rfl) hn hdb) pa_nil h2) h1) (by decide) (by decide) h1 hpl).imp fun σ H Q h => by
    exact tO_mono (a := oa) (ap_run h) fun v H1 q => ⟨v, rfl, q⟩
end
def Kd (C : Ct) (σ : L2.St) (G H : Hp) (fp : List Addr) (Q : List V → Hp → Prop) (xs : List F) (e : Env) : Prop :=
  ∀ (G' H' : Hp) (vs : List V) (fq : List Addr), Mv G H fp G' H' fq → Ok C G' H' fq → RE C G' H' σ e fq → RFs C G' vs xs → Q vs H'
def td (C : Ct) (W : WX) (m : M (List F)) : TA := fun σ H Q => ∃ (G : Hp) (fp : List Addr) (env : Env), Ok C G H fp ∧ RE C G H σ env fp ∧ Kr C W σ G H fp (Kd C σ G H fp Q) (m env)
def dNil : M (List F) := fun env => some (.ok [] env)
def dCons (m : M O) (d : M (List F)) : M (List F) := fun env => match m env with
  | some (.ok o e) => rMap (o.fz :: ·) (d e)
  | some (.ex x e) => some (.ex x e)
  | none => none
def dStar (m : M O) (d : M (List F)) : M (List F) := fun env => match m env with
  | some (.ok o e) => (match o.seq with
    | some (_, xs) => rMap (xs ++ ·) (d e)
    | none => none)
  | some (.ex x e) => some (.ex x e)
  | none => none
section
variable {C : Ct} {W : WX} {σ : L2.St} {G H G' H' : Hp} {fp fq : List Addr} {env : Env}
theorem Kd.seq {Q : List V → Hp → Prop} {xs : List F} {e : Env} (h : Kd C σ G H fp Q xs e) (m : Mv G H fp G' H' fq) : Kd C σ G' H' fq Q xs e := fun G2 H2 v fr m2 ok re ro => h G2 H2 v fr (Mv.seq (fv := []) m m2) ok re ro
theorem dcons_run {m : M O} {d : M (List F)} {Q : List V → Hp → Prop} (h : td C W (dCons m d) σ H Q) : tCons (te C W m) (td C W d) σ H Q := by
  obtain ⟨G, fp, env, ok, re, h⟩ := h
  refine ⟨G, fp, env, ok, re, ?_⟩
  unfold dCons at h
  cases q : m env with
  | none => simp only [q] at h; exact (show False from h).elim
  | some z =>
    cases z with
    | ex x e => simp only [q] at h; exact h
    | ok o e =>
      simp only [q] at h
      intro G1 H1 v fv fq mv ok1 re1 ro
      have m2 : Mv G H fp (still G1 H1 fv) H1 fq := Mv.seq (fv := []) mv (Mv.still ok1)
      have ds : ∀ a ∈ fv, G1 a = none := fun a ha => ok1.ds a (List.mem_append_left _ ha)
      have rf := ro.fz (still_sub ds) fun a ha => still_in ha
      refine ⟨still G1 H1 fv, fq, e, ok1.still ro.own, re1.mv (still_sub ds) (fun a _ u h _ => h), ?_⟩
      cases q2 : d e with
      | none => rw [q2] at h; exact h
      | some z =>
        rw [q2] at h
        cases z with
        | ex x e2 => exact Kx.seq h m2
        | ok xs e2 =>
          intro G2 H2 vs fr m3 ok3 re3 r3
          exact Kd.seq h m2 G2 H2 (v :: vs) fr m3 ok3 re3 (.cons (rf.sub m3.gs) r3)
theorem dstar_run {m : M O} {d : M (List F)} {Q : List V → Hp → Prop} (h : td C W (dStar m d) σ H Q) : StX.tStar C.K (te C W m) (td C W d) σ H Q := by
  obtain ⟨G, fp, env, ok, re, h⟩ := h
  refine ⟨G, fp, env, ok, re, ?_⟩
  unfold dStar at h
  cases q : m env with
  | none => simp only [q] at h; exact (show False from h).elim
  | some z =>
    cases z with
    | ex x e => simp only [q] at h; exact h
    | ok o e =>
      simp only [q] at h
      intro G1 H1 v fv fq mv ok1 re1 ro
      cases q1 : o.seq with
      | none => simp only [q1] at h; exact (show False from h).elim
      | some z =>
        obtain ⟨b, xs⟩ := z
        simp only [q1] at h
        obtain ⟨a, vs, rfl, s1, p1, _⟩ := ro.seq ok1.sub q1
        have m2 : Mv G H fp G1 H1 fq := mv.weak fun a ha => List.mem_append_right _ ha
        have ok2 : Ok C G1 H1 fq := ok1.sub_of (List.nodup_append.mp ok1.nd).2.1 fun a ha => List.mem_append_right _ ha
        refine ⟨a, vs, rfl, s1.any.symm, G1, fq, e, ok2, re1, ?_⟩
        cases q2 : d e with
        | none => rw [q2] at h; exact h
        | some z =>
          rw [q2] at h
          cases z with
          | ex x e2 => exact Kx.seq h m2
          | ok ys e2 =>
            intro G2 H2 ws fr m3 ok3 re3 r3
            exact Kd.seq h m2 G2 H2 (vs ++ ws) fr m3 ok3 re3 ((p1.sub m3.gs).append r3)
def mLst (d : M (List F)) : M O := fun env => match d env with
  | some (.ok xs e) => if xs.length ≤ sizeLine then some (.ok (mkL xs) e) else none
  | some (.ex x e) => some (.ex x e)
  | none => none
def mTup (d : M (List F)) : M O := fun env => match d env with
  | some (.ok xs e) => if xs.length ≤ sizeLine then some (.ok (.f (mkT xs)) e) else none
  | some (.ex x e) => some (.ex x e)
  | none => none
theorem Kv.ad {Q : VK} {o : O} {e : Env} (h : Kv C σ G H fp Q o e) (ok : Ok C G H fp) (re : RE C G H σ e fp) : Kq C G H Q o := fun G' H' v fv ad ro => h G' H' v fv fp ad.mv (ad.ok ok re.nn) (re.ad ad) ro
theorem lst_run {d : M (List F)} {Q : VK} (h : te C W (mLst d) σ H Q) : tLst (td C W d) σ H Q := by
  obtain ⟨G, fp, env, ok, re, h⟩ := h
  refine ⟨G, fp, env, ok, re, ?_⟩
  unfold mLst at h
  cases q : d env with
  | none => simp only [q] at h; exact (show False from h).elim
  | some z =>
    cases z with
    | ex x e => simp only [q] at h; exact h
    | ok xs e =>
      simp only [q] at h
      by_cases hl : xs.length ≤ sizeLine
      · rw [if_pos hl] at h
        intro G1 H1 vs fq m1 ok1 re1 r1
        exact ⟨by rw [r1.length]; exact hl, fun p hp => (Kv.ad (Kv.seq h m1) ok1 re1).lst ok1 r1 hp⟩
      · rw [if_neg hl] at h; exact (show False from h).elim
theorem tup_run {d : M (List F)} {Q : VK} (h : te C W (mTup d) σ H Q) : tTup (td C W d) σ H Q := by
  obtain ⟨G, fp, env, ok, re, h⟩ := h
  refine ⟨G, fp, env, ok, re, ?_⟩
  unfold mTup at h
  cases q : d env with
  | none => simp only [q] at h; exact (show False from h).elim
  | some z =>
    cases z with
    | ex x e => simp only [q] at h; exact h
    | ok xs e =>
      simp only [q] at h
      by_cases hl : xs.length ≤ sizeLine
      · rw [if_pos hl] at h
        intro G1 H1 vs fq m1 ok1 re1 r1
        exact ⟨by rw [r1.length]; exact hl, fun p hp => (Kv.ad (Kv.seq h m1) ok1 re1).tup ok1 r1 hp⟩
      · rw [if_neg hl] at h; exact (show False from h).elim
theorem dnil_run {Q : List V → Hp → Prop} (h : td C W dNil σ H Q) : tNil σ H Q := by
  obtain ⟨G, fp, env, ok, re, h⟩ := h
  exact h G H [] fp .refl ok re .nil
end
theorem _root_.L2.PA.imp {X : Cx} {e : List Expr} {t u : TA} (h : PA X e t) (k : ∀ σ H Q, u σ H Q → t σ H Q) : PA X e u := ⟨fun pos pins s σ H Q I q => h.run pos pins s σ H Q I (k σ H Q q)⟩
section
variable {X : Cx} {C : Ct} {W : WX} {e : Expr} {es : List Expr} {m : M O} {d : M (List F)} {pos p : Pos}
theorem pd_nil : PA X [] (td C W dNil) := pa_nil.imp fun _ _ _ h => dnil_run h
theorem pd_cons (he : PE X e (te C W m)) (hr : PA X es (td C W d)) (hs : starEach (e :: es) X.env = (false, eval e X.env) :: starEach es X.env := by rfl) : PA X (e :: es) (td C W (dCons m d)) := (pa_cons he hr hs).imp fun _ _ _ h => dcons_run h
theorem pd_star (hK : C.K = X.K) (he : PE X e (te C W m)) (hr : PA X es (td C W d)) (hs : starEach (.Starred e p :: es) X.env = (true, eval e X.env) :: starEach es X.env := by rfl) : PA X (.Starred e p :: es) (td C W (dStar m d)) := (StX.pa_star he hr hs).imp fun _ _ _ h => hK ▸ dstar_run h
theorem pm_lst (h : PA X es (td C W d)) : PE X (.List es pos) (te C W (mLst d)) := (pe_lst h).imp fun _ _ _ h => lst_run h
theorem pm_tup {k} (h : PA X es (td C W d)) : PE X (.Tuple es k pos) (te C W (mTup d)) := (pe_tup h).imp fun _ _ _ h => tup_run h
end
def pV : Option Int → V
  | none => .non
  | some i => .int i
def mNo : M O := fun env => some (.ok (.p .none) env)
def mInt (m : M O) : M O := fun env => match m env with
  | some (.ok (.f (.d (.int i))) e) => some (.ok (.p (.int i)) e)
  | some (.ex x e) => some (.ex x e)
  | _ => none
def PartM (m : M O) : Prop := ∀ env o e, m env = some (.ok o e) → o = .p .none ∨ ∃ i, o = .p (.int i)
theorem part_no : PartM mNo := fun env o e h => by cases h; exact .inl rfl
theorem part_int (m : M O) : PartM (mInt m) := fun env o e h => by
  unfold mInt at h
  split at h
  · cases h; exact .inr ⟨_, rfl⟩
  · cases h
  · cases h
def tpo (C : Ct) (W : WX) (m : M O) : TO := fun σ H Q => te C W m σ H fun x H1 => ∀ o, x = pV o → Q o H1
section
variable {C : Ct} {W : WX} {σ : L2.St} {H : Hp} {m : M O}
theorem part_run {Q : VK} (hm : PartM m) (h : te C W m σ H Q) : te C W m σ H fun x H1 => ∀ o, x = pV o → Q (pV o) H1 := te_mono h fun v H1 q o e => e ▸ q
theorem po_no {Q : Option Int → Hp → Prop} (h : tpo C W mNo σ H Q) : tNoPart σ H Q := by
  obtain ⟨G, fp, env, ok, re, h⟩ := h
  exact h G H .non [] fp .refl ok re (.f (.d .non)) none rfl
theorem po_int {Q : Option Int → Hp → Prop} (h : tpo C W (mInt m) σ H Q) : tPart (te C W m) σ H Q := by
  obtain ⟨G, fp, env, ok, re, h⟩ := h
  refine ⟨G, fp, env, ok, re, ?_⟩
  unfold mInt at h
  split at h
  · rename_i i e q
    rw [q]
    intro G1 H1 v fv fq m1 ok1 re1 ro
    exact ⟨i, ro.int, h G1 H1 v fv fq m1 ok1 re1 ro (some i) ro.int⟩
  · rename_i x e q
    rw [q]
    exact h
  · exact (show False from h).elim
end
theorem _root_.L2.PO.imp {X : Cx} {e : Option Expr} {t u : TO} (h : PO X e t) (k : ∀ σ H Q, u σ H Q → t σ H Q) : PO X e u := ⟨fun pins s σ H Q I q => h.run pins s σ H Q I (k σ H Q q)⟩
section
variable {X : Cx} {C : Ct} {W : WX} {e : Expr} {lo hi : Option Expr} {oa : Opd} {m ml mh : M O} {g : List O → Option O} {pos p2 : Pos}
theorem pm_none : PO X none (tpo C W mNo) := po_none.imp fun _ _ _ h => po_no h
theorem pm_some (h : PE X e (te C W m)) : PO X (some e) (tpo C W (mInt m)) := (po_some h).imp fun _ _ _ h => po_int h
theorem pm_slice (hr : SlR X fun x l u H Q => rOf C g [x, pV l, pV u] H Q) (he : PE X e (tO C W oa)) (hl : PO X lo (tpo C W ml)) (hu : PO X hi (tpo C W mh)) (pl : PartM ml) (pu : PartM mh) :
    PE X (.Subscript e (.Slice lo hi none p2) pos) (te C W (mAp g [oa, .e ml, .e mh])) :=
  (pe_slice hr he hl hu).imp fun σ H Q h => tO_mono (a := oa) (ap_run h) fun x H1 q => te_mono q fun y H2 q2 l hl => te_mono q2 fun z H3 q3 u hu => by
    subst hl hu
    exact q3
end
end Mi
set_option Elab.async false
set_option linter.all false
set_option maxRecDepth 100000
set_option maxHeartbeats 2000000
namespace Mi
open PySem PySem.Spec PyProof.Rows L2
open PySem.W (alike dataLt)
def pI : O → Option (Option Int)
  | .f (.d .none) => some none
  | .f (.d (.int i)) => some (some i)
  | _ => none
def cutF (xs : List F) (lo hi : Option Int) : List F := (xs.drop (HT.sIx xs.length 0 lo)).take (HT.sIx xs.length xs.length hi - HT.sIx xs.length 0 lo)
def qCut : List O → Option O
  | [o, l, u] => (match o.seq, pI l, pI u with
    | some (false, xs), some lo, some hi => some (mkL (cutF xs lo hi))
    | some (true, xs), some lo, some hi => some (.f (mkT (cutF xs lo hi)))
    | _, _, _ => none)
  | _ => none
def sCut : List O → Option O
  | [.f (.d (.str z)), l, u] => if z.length ≤ sizeLine then (match pI l, pI u with
    | some lo, some hi => some (.p (.str (cutS z lo hi)))
    | _, _ => none) else none
  | _ => none
def fCut : List O → Option O
  | [.f (.s ns), l, u] => (match pI l, pI u with
    | some lo, some hi => some (mkL (cutF (ns.map fun n => .d (.int n)) lo hi))
    | _, _ => none)
  | _ => none
section
variable {X : Cx} {C : Ct}
theorem pI_pV {G H : Hp} {v : V} {o : O} {f : List Addr} {i : Option Int} {j : Option Int} (r : RO C G H (pV i) o f) (e : pI o = some j) : i = j := by
  unfold pI at e
  split at e
  · cases e
    have := r.non
    cases i with
    | none => rfl
    | some i => cases this
  · cases e
    have := r.int
    cases i with
    | none => cases this
    | some i => cases this; rfl
  · cases e
theorem RFs.cut {G : Hp} {vs : List V} {xs : List F} (h : RFs C G vs xs) (lo hi : Option Int) : RFs C G (cutV vs lo hi) (cutF xs lo hi) := by
  unfold cutV cutF
  rw [h.length]
  exact (h.drop _).take _
theorem RAs.three {G H : Hp} {fp : List Addr} {v u w : V} {os : List O} (h : RAs C G H fp [v, u, w] os) : ∃ o f p g q k, os = [o, p, q] ∧ RO C G H v o f ∧ RO C G H u p g ∧ RO C G H w q k := by
  cases h with
  | cons a _ b =>
    cases b with
    | cons b _ c =>
      cases c with
      | cons c _ d => cases d; exact ⟨_, _, _, _, _, _, rfl, a, b, c⟩
theorem slr_or {g1 g2 : List O → Option O} (h1 : SlR X fun x l u H Q => rOf C g1 [x, pV l, pV u] H Q) (h2 : SlR X fun x l u H Q => rOf C g2 [x, pV l, pV u] H Q) : SlR X fun x l u H Q => rOf C (gOr g1 g2) [x, pV l, pV u] H Q :=
  fun pins s σ H x v vl vu lo hi sl Q I rx hs pl pu h => (rOf_or h).elim (fun z => h1 pins s σ H x v vl vu lo hi sl Q I rx hs pl pu z) (fun z => h2 pins s σ H x v vl vu lo hi sl Q I rx hs pl pu z)
theorem slr_imp {g : List O → Option O} {r : V → Option Int → Option Int → Hp → VK → Prop} (h : SlR X r) (k : ∀ x l u H Q, rOf C g [x, pV l, pV u] H Q → r x l u H Q) : SlR X fun x l u H Q => rOf C g [x, pV l, pV u] H Q :=
  fun pins s σ H x v vl vu lo hi sl Q I rx hs pl pu q => h pins s σ H x v vl vu lo hi sl Q I rx hs pl pu (k _ _ _ _ _ q)
theorem slr_q (hK : C.K = X.K) : SlR X fun x l u H Q => rOf C qCut [x, pV l, pV u] H Q := slr_imp (sl_list.or sl_tupA) fun x l u H Q q => by
  obtain ⟨G, fp, os, o, ok, ra, e, kq⟩ := rOf_open q
  obtain ⟨o1, f1, o2, f2, o3, f3, rfl, r1, r2, r3⟩ := ra.three
  unfold qCut at e
  dsimp only at e
  split at e
  · rename_i xs lo hi q1 q2 q3
    cases e
    obtain ⟨a, vs, rfl, s1, p1, _⟩ := r1.seq ok.sub q1
    cases pI_pV (v := .non) r2 q2
    cases pI_pV (v := .non) r3 q3
    exact .inl ⟨a, vs, rfl, .of s1, fun p hp => kq.lst ok (p1.cut _ _) hp⟩
  · rename_i xs lo hi q1 q2 q3
    cases e
    obtain ⟨a, vs, rfl, s1, p1, t1⟩ := r1.seq ok.sub q1
    cases pI_pV (v := .non) r2 q2
    cases pI_pV (v := .non) r3 q3
    rw [hK] at s1
    refine .inr ⟨a, vs, rfl, s1, fun z => ?_, fun _ p hp => kq.tup ok (p1.cut _ _) hp⟩
    have ew : cutF xs l u = xs := by
      unfold cutF
      rw [← p1.length, z.1, z.2]
      simp [p1.length]
    rw [ew] at kq
    exact kq.f ok (t1 rfl)
  · cases e
theorem slr_s : SlR X fun x l u H Q => rOf C sCut [x, pV l, pV u] H Q := slr_imp sl_str fun x l u H Q q => by
  obtain ⟨G, fp, os, o, ok, ra, e, kq⟩ := rOf_open q
  obtain ⟨o1, f1, o2, f2, o3, f3, rfl, r1, r2, r3⟩ := ra.three
  unfold sCut at e
  split at e
  · rename_i z l' u' w
    cases w
    split at e
    · rename_i hz
      split at e
      · rename_i lo hi q2 q3
        cases e
        cases pI_pV (v := .non) r2 q2
        cases pI_pV (v := .non) r3 q3
        exact ⟨z, r1.str, hz, kq.f ok (.d (.str _))⟩
      · cases e
    · cases e
  · cases e
theorem rfs_ints {G : Hp} : ∀ ns : List Int, RFs C G (ns.map V.int) (ns.map fun n => .d (.int n))
  | [] => .nil
  | n :: ns => .cons (.d (.int n)) (rfs_ints ns)
theorem slr_f (hK : C.K = X.K) : SlR X fun x l u H Q => rOf C fCut [x, pV l, pV u] H Q := slr_imp sl_list fun x l u H Q q => by
  obtain ⟨G, fp, os, o, ok, ra, e, kq⟩ := rOf_open q
  obtain ⟨o1, f1, o2, f2, o3, f3, rfl, r1, r2, r3⟩ := ra.three
  unfold fCut at e
  split at e
  · rename_i ns l' u' w
    cases w
    split at e
    · rename_i lo hi q2 q3
      cases e
      cases pI_pV (v := .non) r2 q2
      cases pI_pV (v := .non) r3 q3
      cases r1 with
      | f r1 =>
        cases r1 with
        | s r1 => exact ⟨_, _, rfl, hK ▸ sql_sub ok.sub r1, fun p hp => kq.lst ok ((rfs_ints ns).cut _ _) hp⟩
    · cases e
  · cases e
end
theorem tabs_upd {T : List (Addr × Str)} {H : Hp} {a : Addr} {u0 u1 : HO} (t : LamX.Tabs T H) (h : H a = some u0) (hn : ∀ ps, u0 ≠ .tbl ps) (hc : ∀ c q, u0 ≠ LamX.CodeO c q) : LamX.Tabs T (upd H a u1) := fun p hp => by
  obtain ⟨ps, h1, h2, h3⟩ := t p hp
  refine ⟨ps, ?_, h2, fun pos cv hv => ?_⟩
  · rw [upd_ne (fun z : p.1 = a => by rw [z, h] at h1; exact hn ps (Option.some.inj h1))]; exact h1
  · obtain ⟨c, e1, e2⟩ := h3 pos cv hv
    refine ⟨c, e1, ?_⟩
    rw [upd_ne (fun z : c = a => by rw [z, h] at e2; exact hc a _ (Option.some.inj e2))]
    exact e2
def O.own : O → Option (List F)
  | .w ps => some (ps.map .d)
  | .l xs => some xs
  | _ => none
section
variable {C : Ct} {W : WX} {σ : L2.St} {G H G' H' : Hp} {fp fq f : List Addr} {env : Env}
theorem RO.own_at {v : V} {o : O} {xs : List F} (r : RO C G H v o f) (e : o.own = some xs) : ∃ a vs, v = .ref a ∧ f = [a] ∧ H a = some (.lst vs) ∧ RFs C G vs xs := by
  cases r with
  | f r => cases e
  | w a r => cases e; exact ⟨_, _, rfl, rfl, a, rfs_rep r⟩
  | l a r => cases e; exact ⟨_, _, rfl, rfl, a, r⟩
  | i _ _ _ _ => cases e
theorem slot_list {i : Nat} {o : O} {xs : List F} (ok : Ok C G H fp) (re : RE C G H σ env fp) (e : env[i]? = some (some o)) (eo : o.own = some xs) :
    ∃ a vs, σ[i]? = some (some (.ref a)) ∧ H a = some (.lst vs) ∧ RFs C G vs xs ∧ ∀ (ws : List V) (ys : List F), RFs C G ws ys →
      Mv G H fp G (upd H a (.lst ws)) fp ∧ Ok C G (upd H a (.lst ws)) fp ∧ RE C G (upd H a (.lst ws)) σ (env.set i (some (mkL ys))) fp := by
  obtain ⟨v, f1, f, f2, h1, h2, h3, h4⟩ := re.get e
  obtain ⟨a, vs, rfl, rfl, ha, r⟩ := h3.own_at eo
  refine ⟨a, vs, h1, ha, r, fun ws ys rw => ?_⟩
  have af : a ∈ fp := by rw [h2]; simp
  have nd := ok.nd
  rw [h2] at nd
  have ne : ∀ b, b ∈ f1 ∨ b ∈ f2 → b ≠ a := fun b hb z => by
    subst z
    rcases hb with hb | hb
    · exact (List.nodup_append.mp nd).2.2 b hb b (by simp) rfl
    · exact (List.nodup_append.mp (List.nodup_append.mp nd).2.1).2.2 b (by simp) b hb rfl
  have ga : G a = none := ok.ds a af
  refine ⟨⟨fun _ _ h => h, fun _ _ h => .inl h, fun b u h n t => ?_, fun b hb => .inl hb, fun b hb => ?_⟩, ⟨fun b u h => ?_, ok.gt, ok.nd, ok.ds, ?_⟩, ?_⟩
  · rw [upd_ne (fun z : b = a => n (by rw [z]; exact af))]; exact h
  · by_cases z : b = a
    · subst z; rw [upd_same] at hb; cases hb
    · rw [upd_ne z] at hb; exact hb
  · rw [upd_ne (fun z => by subst z; rw [ga] at h; cases h)]; exact ok.sub b u h
  · exact tabs_upd ok.tb ha (fun _ z => by cases z) (fun _ _ z => by cases z)
  · have := h4 (G' := G) (H' := upd H a (.lst ws)) (v' := some (.ref a)) (o' := some (mkL ys)) (f' := [a]) (fun _ _ h => h) (fun b hb u h _ => by rw [upd_ne (ne b hb)]; exact h) (.inr ⟨.ref a, mkL ys, rfl, rfl, RO.mkL upd_same rw⟩)
    rw [h2]
    have es : σ.set i (some (.ref a)) = σ := by
      rw [List.getElem?_eq_some_iff] at h1
      obtain ⟨_, e⟩ := h1
      conv => lhs; rw [← e]
      exact List.set_getElem_self _
    rw [es] at this
    exact this
end
end Mi
set_option Elab.async false
set_option linter.all false
set_option maxRecDepth 100000
set_option maxHeartbeats 2000000
namespace Mi
open PySem PySem.Spec PyProof.Rows L2
open PySem.W (alike dataLt)
def slotOwn (i : Nat) (env : Env) : Option (List F) := match env[i]? with
  | some (some o) => o.own
  | _ => none
def mMut (i : Nat) (d : M (List F)) (f : List F → List F → Option (F × List F)) : M O := fun env => match slotOwn i env with
  | none => none
  | some _ => match d env with
    | some (.ok as e) => (match slotOwn i e with
      | some xs => (match f as xs with
        | some (r, ys) => some (.ok (.f r) (e.set i (some (mkL ys))))
        | none => none)
      | none => none)
    | some (.ex x e) => some (.ex x e)
    | none => none
def rMut (C : Ct) (f : List F → List F → Option (F × List F)) : V → List V → Hp → VK → Prop := fun x vs H Q => ∃ (G : Hp) (a : Addr) (ws : List V) (xs as : List F) (r : F) (ys : List F), x = .ref a ∧ H a = some (.lst ws) ∧ RFs C G ws xs ∧ RFs C G vs as ∧ (∀ b u, G b = some u → H b = some u) ∧
  f as xs = some (r, ys) ∧ ∀ (w : V) (ws' : List V), RF C G w r → RFs C G ws' ys → Q w (upd H a (.lst ws'))
section
variable {C : Ct} {W : WX} {σ : L2.St} {G H G' H' : Hp} {fp fq : List Addr} {env : Env}
theorem slotOwn_open {i : Nat} {xs : List F} (h : slotOwn i env = some xs) : ∃ o, env[i]? = some (some o) ∧ o.own = some xs := by
  unfold slotOwn at h
  split at h
  · rename_i o e; exact ⟨o, e, h⟩
  · cases h
theorem mut_run {K : PySem.W.Frag} {i : Nat} {d : M (List F)} {f : List F → List F → Option (F × List F)} {Q : VK} (h : te C W (mMut i d f) σ H Q) : tBM K "list" (rMut C f) (tVar i) (td C W d) σ H Q := by
  obtain ⟨G, fp, env, ok, re, h⟩ := h
  unfold mMut at h
  cases q0 : slotOwn i env with
  | none => rw [q0] at h; exact (show False from h).elim
  | some xs0 =>
    rw [q0] at h
    dsimp only at h
    obtain ⟨o0, e0, w0⟩ := slotOwn_open q0
    obtain ⟨a, vs, h1, h2, h3, _⟩ := slot_list ok re e0 w0
    refine ⟨.ref a, h1, .inl ⟨rfl, vs, .of h2⟩, G, fp, env, ok, re, ?_⟩
    cases q1 : d env with
    | none => simp only [q1] at h; exact (show False from h).elim
    | some z =>
      cases z with
      | ex x e => simp only [q1] at h; exact h
      | ok as e =>
        simp only [q1] at h
        intro G1 H1 ws fq m1 ok1 re1 ra
        cases q2 : slotOwn i e with
        | none => simp only [q2] at h; exact (show False from h).elim
        | some xs =>
          simp only [q2] at h
          cases q3 : f as xs with
          | none => simp only [q3] at h; exact (show False from h).elim
          | some z =>
            obtain ⟨r, ys⟩ := z
            simp only [q3] at h
            obtain ⟨o1, e1, w1⟩ := slotOwn_open q2
            obtain ⟨b, us, k1, k2, k3, k4⟩ := slot_list ok1 re1 e1 w1
            have : b = a := by rw [h1] at k1; cases k1; rfl
            subst this
            refine ⟨G1, b, us, xs, as, r, ys, rfl, k2, k3, ra, ok1.sub, q3, fun w ws' rw rws => ?_⟩
            obtain ⟨m2, ok2, re2⟩ := k4 ws' ys rws
            exact h G1 _ w [] fq (Mv.seq (fv := []) m1 m2) ok2 re2 (.f rw)
def fAppend : List F → List F → Option (F × List F)
  | [x], xs => if xs.length < sizeLine then some (.d .none, xs ++ [x]) else none
  | _, _ => none
def fExtend : List F → List F → Option (F × List F)
  | [x], xs => (match x.seq with
    | some (false, ys) => if xs.length + ys.length ≤ sizeLine then some (.d .none, xs ++ ys) else none
    | _ => none)
  | _, _ => none
def fPop : List F → List F → Option (F × List F)
  | [], xs => (match xs[xs.length - 1]? with
    | some x => some (x, xs.dropLast)
    | none => none)
  | _, _ => none
def fPopAt : List F → List F → Option (F × List F)
  | [.d (.int i)], xs => if -(2 ^ 63) ≤ i ∧ i < 2 ^ 63 then (match seqIndex? i xs.length with
    | some k => (match xs[k]? with
      | some x => some (x, xs.eraseIdx k)
      | none => none)
    | none => none) else none
  | _, _ => none
def fRemove : List F → List F → Option (F × List F)
  | [.d x], xs => (match pys xs with
    | some ps => if okD x && okD (.list ps) then (match PySem.SeqAt.dataPlace ps x with
      | some j => some (.d .none, xs.eraseIdx j)
      | none => none) else none
    | none => none)
  | _, _ => none
variable {X : Cx}
theorem mt_imp {id : String} {f : List F → List F → Option (F × List F)} {r : V → List V → Hp → VK → Prop} (h : MtM X id r) (k : ∀ x vs H Q, rMut C f x vs H Q → r x vs H Q) : MtR X id (rMut C f) := fun pins s σ H x xs v us Q I rx rs q => h pins s σ H x xs v us Q I rx rs (k x xs H Q q)
theorem mm_append : MtR X "list.append" (rMut C fAppend) := mt_imp mt_append fun x vs H Q q => by
  obtain ⟨G, a, ws, xs, as, r, ys, rfl, h1, h2, h3, hs, e, k⟩ := q
  unfold fAppend at e
  split at e
  · split at e
    · rename_i hl; cases e
      cases h3 with
      | cons r1 rn =>
        cases rn
        exact ⟨a, ws, _, rfl, rfl, h1, by rw [h2.length]; exact hl, k _ _ (.d .non) (h2.append (.cons r1 .nil))⟩
    · cases e
  · cases e
theorem mm_extend : MtR X "list.extend" (rMut C fExtend) := mt_imp mt_extend fun x vs H Q q => by
  obtain ⟨G, a, ws, xs, as, r, ys, rfl, h1, h2, h3, hs, e, k⟩ := q
  unfold fExtend at e
  split at e
  · split at e
    · rename_i zs q1
      split at e
      · rename_i hl; cases e
        cases h3 with
        | cons r1 rn =>
          cases rn
          obtain ⟨b, us, rfl, s1, p1, _⟩ := r1.seq q1
          exact ⟨a, b, ws, us, rfl, rfl, h1, hs _ _ s1, by rw [h2.length, p1.length]; exact hl, k _ _ (.d .non) (h2.append p1)⟩
      · cases e
    · cases e
  · cases e
theorem RFs.dropLast {G : Hp} {vs : List V} {xs : List F} (h : RFs C G vs xs) : RFs C G vs.dropLast xs.dropLast := by
  rw [List.dropLast_eq_take, List.dropLast_eq_take, h.length]
  exact h.take _
theorem RFs.eraseIdx {G : Hp} : ∀ {vs : List V} {xs : List F} (i : Nat), RFs C G vs xs → RFs C G (vs.eraseIdx i) (xs.eraseIdx i)
  | _, _, _, .nil => .nil
  | _, _, 0, .cons _ b => b
  | _, _, i + 1, .cons a b => .cons a (RFs.eraseIdx i b)
theorem RFs.set {G : Hp} {v : V} {x : F} (r : RF C G v x) : ∀ {vs : List V} {xs : List F} (i : Nat), RFs C G vs xs → RFs C G (vs.set i v) (xs.set i x)
  | _, _, _, .nil => .nil
  | _, _, 0, .cons _ b => .cons r b
  | _, _, i + 1, .cons a b => .cons a (RFs.set r i b)
theorem mm_pop : MtR X "list.pop" (rMut C fPop) := mt_imp mt_pop fun x vs H Q q => by
  obtain ⟨G, a, ws, xs, as, r, ys, rfl, h1, h2, h3, hs, e, k⟩ := q
  unfold fPop at e
  split at e
  · split at e
    · rename_i w q1; cases e
      cases h3
      obtain ⟨v, e1, rv⟩ := h2.get q1
      exact ⟨a, ws, v, rfl, rfl, h1, by rw [h2.length]; exact e1, k _ _ rv h2.dropLast⟩
    · cases e
  · cases e
theorem mm_popAt : MtR X "list.pop" (rMut C fPopAt) := mt_imp mt_popAt fun x vs H Q q => by
  obtain ⟨G, a, ws, xs, as, r, ys, rfl, h1, h2, h3, hs, e, k⟩ := q
  unfold fPopAt at e
  split at e
  · split at e
    · rename_i hi
      split at e
      · rename_i j q1
        split at e
        · rename_i w q2; cases e
          cases h3 with
          | cons r1 rn =>
            cases rn
            obtain ⟨v, e1, rv⟩ := h2.get q2
            cases r1 with
            | d r1 =>
              cases r1
              exact ⟨a, ws, _, j, v, rfl, rfl, h1, hi.1, hi.2, by rw [h2.length]; exact q1, e1, k _ _ rv (h2.eraseIdx _)⟩
        · cases e
      · cases e
    · cases e
  · cases e
theorem mm_remove (hK : C.K = X.K) (hu : X.A.units + 64 < cLine) : MtR X "list.remove" (rMut C fRemove) := fun pins s σ H x vs v us Q I rx rs q => by
  obtain ⟨G, a, ws, xs, as, r, ys, rfl, h1, h2, h3, hs, e, k⟩ := q
  cases rx
  unfold fRemove at e
  split at e
  · rename_i p xs
    split at e
    · rename_i ps q1
      split at e
      · rename_i ho
        rw [Bool.and_eq_true] at ho
        split at e
        · rename_i j q2; cases e
          cases h3 with
          | cons r1 rn =>
            cases rn
            cases rs with
            | cons ru rn =>
              cases rn
              cases r1 with
              | d r1 =>
                obtain ⟨p1, p2⟩ := okD_open ho.1
                obtain ⟨l1, l2⟩ := okD_open ho.2
                obtain ⟨z, its, n, rv, hl, e1⟩ := I.lstM h1
                obtain ⟨bs, b1, _⟩ := Rep.reads I (hK ▸ r1.sub hs) ru
                obtain ⟨cs, c1, _⟩ := RepL.reads I (hK ▸ (pys_rep h2 q1).sub hs) rv
                refine PySem.SeqAt.remove_list_data (vs := its.toArray) ⟨_, e1, rfl, _, rfl⟩ c1 b1 l1 p1 (by omega) q2 (by rw [List.size_toArray]; omega) ?_
                refine ⟨.non, _, I.lset (its' := its.eraseIdx j) (t' := s.toks) h1 e1 ?_ (rv.eraseIdx j) ?_, rfl, k _ _ (.d .non) (h2.eraseIdx _)⟩
                · rw [List.eraseIdxIfInBounds_toArray]
                · have := len_erase ws j
                  omega
        · cases e
      · cases e
    · cases e
  · cases e
end
section
variable {X : Cx} {C : Ct} {W : WX} {x name : Str} {e : Expr} {es : List Expr} {d : M (List F)} {id : String} {f : List F → List F → Option (F × List F)} {p apos pos : Pos}
theorem pm_mut (i : Nat) (slot : Slot "list" name id) (hty : typeOf (.builtin id) = pure (.type "method_descriptor")) (hm : MtR X id (rMut C f)) (ho : PE X (.Name x p) (tVar i)) (ha : PA X (e :: es) (td C W d))
    (hbase : attributeBase (.Name x p) name X.env (eval (.Name x p) X.env) = eval (.Name x p) X.env := by rfl)
    (hfew : ((backTo pos (starEach (e :: es) X.env)).all (fun x => !x.1) && (backToKw pos (keywordEach [] X.env)).all (fun x => x.1.isSome)
      && decide ((e :: es).length + ([] : List Keyword).length + (if ([] : List Keyword).isEmpty then 0 else 1) < 30)) = true := by rfl)
    (hline : (apos.endLine == pos.line) = true := by rfl) (hs : starEach (e :: es) X.env = (false, eval e X.env) :: starEach es X.env := by rfl) (hplain : (backTo pos (starEach es X.env)).any (·.1) = false := by rfl) :
    PE X (.Call (.Attribute (.Name x p) name apos) (e :: es) [] pos) (te C W (mMut i d f)) :=
  (pe_bm PySem.F.plainAttrs_list slot hty hm ho ha hbase hfew hline hs hplain).imp fun _ _ _ h => mut_run h
theorem pm_mut0 (i : Nat) (slot : Slot "list" name id) (hty : typeOf (.builtin id) = pure (.type "method_descriptor")) (hm : MtR X id (rMut C f)) (ho : PE X (.Name x p) (tVar i))
    (hbase : attributeBase (.Name x p) name X.env (eval (.Name x p) X.env) = eval (.Name x p) X.env := by rfl) (hline : (apos.endLine == pos.line) = true := by rfl) :
    PE X (.Call (.Attribute (.Name x p) name apos) [] [] pos) (te C W (mMut i dNil f)) :=
  (pe_bm0 PySem.F.plainAttrs_list slot hty hm ho hbase hline).imp fun σ H Q h => by
    obtain ⟨v, h1, h2, h3⟩ := mut_run (K := X.K) h
    exact ⟨v, h1, h2, dnil_run h3⟩
end
def oInt : O → Option Int
  | .f (.d (.int k)) => some k
  | _ => none
theorem RO.oInt {C : Ct} {G H : Hp} {v : V} {o : O} {f : List Addr} {k : Int} (r : RO C G H v o f) (e : Mi.oInt o = some k) : v = .int k := by
  unfold Mi.oInt at e
  split at e
  · cases e; exact r.int
  · cases e
def subPut (i : Nat) (x : F) (w : O) (e : Env) : Option Env := match oInt w, slotOwn i e with
  | some k, some xs => (match ixN xs.length k with
    | some j => some (e.set i (some (mkL (xs.set j x))))
    | none => none)
  | _, _ => none
def gSubL (i : Nat) (mi : M O) : Tg := fun o env => match slotOwn i env with
  | none => none
  | some _ => match mi env with
    | some (.ok w e) => subPut i o.fz w e
    | _ => none
section
variable {C : Ct} {W : WX} {P : Nat → Bool} {σ : L2.St} {H : Hp}
theorem subL_run {i : Nat} {mi : M O} {v : V} {Q : L2.St → Hp → Prop} (h : tg C P (gSubL i mi) v σ H Q) : gSub (tVar i) (te C W mi) rSetL v σ H Q := by
  obtain ⟨G, f, fp, env, o, ok, re, ro, h⟩ := h
  unfold gSubL at h
  cases q0 : slotOwn i env with
  | none => rw [q0] at h; exact h.elim
  | some xs0 =>
    rw [q0] at h
    dsimp only at h
    have ds : ∀ a ∈ f, G a = none := fun a ha => ok.ds a (List.mem_append_left _ ha)
    have rf := ro.fz (still_sub ds) fun a ha => still_in ha
    have ok0 := ok.still ro.own
    have re0 := re.mv (G' := still G H f) (H' := H) (still_sub ds) (fun a _ u h _ => h)
    have m0 := Mv.still ok
    obtain ⟨o0, e0, w0⟩ := slotOwn_open q0
    obtain ⟨a, vs, h1, h2, h3, _⟩ := slot_list ok0 re0 e0 w0
    refine ⟨.ref a, h1, still G H f, fp, env, ok0, re0, ?_⟩
    cases q1 : mi env with
    | none => simp only [q1] at h
    | some z =>
      cases z with
      | ex x e => simp only [q1] at h
      | ok w e1 =>
        simp only [q1] at h
        intro G1 H1 iv fv fq m1 ok1 re1 ri
        unfold subPut at h
        cases q2 : oInt w with
        | none => simp only [q2] at h
        | some k =>
          cases q3 : slotOwn i e1 with
          | none => simp only [q2, q3] at h
          | some xs =>
            cases q4 : ixN xs.length k with
            | none => simp only [q2, q3, q4] at h
            | some j =>
              simp only [q2, q3, q4] at h
              have := ri.oInt q2
              subst this
              have ok2 : Ok C G1 H1 fq := ok1.sub_of (List.nodup_append.mp ok1.nd).2.1 fun a ha => List.mem_append_right _ ha
              have m2 := m1.weak (fv := fq) fun a ha => List.mem_append_right _ ha
              obtain ⟨o1, e1, w1⟩ := slotOwn_open q3
              obtain ⟨b, us, k1, k2, k3, k4⟩ := slot_list ok2 re1 e1 w1
              have : b = a := by rw [h1] at k1; cases k1; rfl
              subst this
              obtain ⟨m3, ok3, re3⟩ := k4 (us.set j v) (xs.set j o.fz) (k3.set (rf.sub m1.gs) j)
              exact ⟨b, us, k, j, rfl, rfl, k2, by rw [k3.length]; exact q4, h σ G1 _ fq (Mv.seq (fv := []) (Mv.seq (fv := []) m0 m2) m3) ok3 re3 .refl⟩
end
section
variable {X : Cx} {C : Ct} {W : WX} {P : Nat → Bool} {x : Str} {e : Expr} {mi : M O} {p pos : Pos}
theorem pgm_sub (i : Nat) (ho : PE X (.Name x p) (tVar i)) (hi : PE X e (te C W mi))
    (ha : ∀ v, assign (.Subscript (.Name x p) e pos) X.env v = (do
      let ov ← holding [v] (eval (.Name x p) X.env)
      let iv ← holding [v, ov] (eval e X.env)
      standAt pos
      holding [v, ov, iv] (setItem ov iv v)
      release [v, ov, iv] []) := by intro _; rfl) : PG X (.Subscript (.Name x p) e pos) (tg C P (gSubL i mi)) := by
  have k := pg_sub (pos := pos) ho hi set_list ha
  exact ⟨fun pins s σ H v u Q I r h => k.run pins s σ H v u Q I r (subL_run (W := W) h)⟩
end
end Mi
set_option Elab.async false
set_option linter.all false
set_option maxRecDepth 100000
set_option maxHeartbeats 2000000
namespace Mi
open PySem PySem.Spec PyProof.Rows L2
abbrev WD (E : XK) : WX := fun cls d _ H => E cls d H
abbrev xOf (P : Program) (w : World) (K : PySem.W.Frag) (mg : Str → Option Value) (base : Heap) (N : List Str) (qual : Str) (scope : Scope) (f : Addr) (cd : Value) (A : Around) (outer : List PySem.Env) (s : Shared) (H : Hp) (E : XK) : Cx := L2.cxOf (L2.CX P w) P w K mg base N qual scope f cd A outer s H E
theorem spI_len {C : Ct} {n : Nat} {f : DS} (vs : List V) (H : Hp) (Q : VK) (E : XK) (h : spI C n f vs H Q E) : vs.length = n := by
  obtain ⟨G, fp, os, hl, ok, ro, _⟩ := h
  exact ro.length.trans hl
section
variable {C : Ct} {P : Program} {w : World} {K : PySem.W.Frag} {mg : Str → Option Value} {base : Heap} {x qual : Str} {params : Arguments} {body : List Stmt} {scope : Scope} {kws : List (Str × V)} {f : Addr} {fd : FuncData} {N ps : List Str} {k n : Nat} {Pi : Nat → Bool} {m : MS}
theorem def_ok (F : FunD K x qual params body scope [] kws f fd) (S : FnScope N ps scope) (hn : ps.length = n) (hN : n ≤ N.length)
    (hb : ∀ (cd : Value) (A : Around) (outer : List PySem.Env) (s : Shared) (H : Hp) (E : XK), A.guards = some [] → Room k (A.deeper (envOfC qual scope s.heap.objs.size f cd)) → PSs (xOf P w K mg base N qual scope f cd A outer s H E) body (ts C (WD E) Pi m)) :
    FnG P w K mg base (k + 1) f fd ps (spI C n (dSem N.length n Pi m)) := by
  obtain ⟨oc, od, dV, kV, doc, pm, an, cdv, ct, osl, rfl, lk, hcd, _, _⟩ := F.ex
  exact fn_ofG lk hcd S (fun vs H Q E h => (spI_len vs H Q E h).trans hn.symm) fun A outer s H vs Q E hg hr hsp =>
    ⟨_, hb cdv A outer s H E hg hr, body_run (W := WD E) (E := E) hN (fun _ _ _ _ h => h) hsp⟩
end
section
variable {X : Cx} {C : Ct} {W : WX} {x : Str} {f : Addr} {k j : Nat} {fd : FuncData} {ps : List Str} {n : Nat} {g : DS} {as : List Opd} {e : Expr} {es : List Expr} {p pos : Pos}
theorem pm_call (F : FnG X.prog X.w X.K X.mg X.base k f fd ps (spI C n g)) (hr : Room j X.A) (hj : k ≤ j) (hA : X.A.guards = some []) (tk : Takes X W) (hg : Gl X x) (hm : X.mg x = some (.ref f)) (hk : PySem.W.keepIn X.K (.ref f) = true) (hb : Binds X.K fd ps []) (hn : as.length = n)
    (ha : PA X (e :: es) (tAs C W as)) (hdb : (x == ("__debug__" : Str)) = false := by decide) (he : starEach (e :: es) X.env = (false, eval e X.env) :: starEach es X.env := by rfl) (hpl : (backTo pos (starEach es X.env)).any (·.1) = false := by rfl) :
    PE X (.Call (.Name x p) (e :: es) [] pos) (te C W (mCall g as)) := (pe_callG hA tk (F.mono hj) hr hg hm hk hb ha hdb he hpl).imp fun _ _ _ h => call_run h hn
theorem pm_call0 (F : FnG X.prog X.w X.K X.mg X.base k f fd ps (spI C 0 g)) (hr : Room j X.A) (hj : k ≤ j) (hA : X.A.guards = some []) (tk : Takes X W) (hg : Gl X x) (hm : X.mg x = some (.ref f)) (hk : PySem.W.keepIn X.K (.ref f) = true) (hb : Binds X.K fd ps [])
    (hdb : (x == ("__debug__" : Str)) = false := by decide) : PE X (.Call (.Name x p) [] [] pos) (te C W (mCall g [])) := (pe_callG0 hA tk (F.mono hj) hr hg hm hk hb hdb).imp fun _ _ _ h => call_run h rfl
end
end Mi
set_option Elab.async false
set_option linter.all false
set_option maxRecDepth 100000
set_option maxHeartbeats 2000000
namespace Mi
open PySem PySem.Spec PyProof.Rows L2
def agAll : List Tg → List F → Env → Option Env
  | [], [], e => some e
  | g :: gs, x :: xs, e => (match g (.f x) e with
    | some e' => agAll gs xs e'
    | none => none)
  | _, _, _ => none
def gTupM (gs : List Tg) : Tg := fun o e => match o.seq with
  | some (true, xs) => agAll gs xs e
  | _ => none
def tgs (C : Ct) (P : Nat → Bool) (gs : List Tg) : TGs := fun vs σ H Q => ∃ (G : Hp) (fp : List Addr) (env : Env) (xs : List F), Ok C G H fp ∧ RE C G H σ env fp ∧ RFs C G vs xs ∧
  match agAll gs xs env with
  | none => False
  | some e => Kn C P σ G H fp e Q
section
variable {C : Ct} {W : WX} {P : Nat → Bool} {σ : L2.St} {G H G' H' : Hp} {fp fq f : List Addr} {env : Env}
theorem tgs_nil {vs : List V} {Q : L2.St → Hp → Prop} (h : tgs C P [] vs σ H Q) : gNil vs σ H Q := by
  obtain ⟨G, fp, env, xs, ok, re, r, h⟩ := h
  cases r with
  | nil => exact ⟨rfl, h σ G H fp .refl ok re .refl⟩
  | cons _ _ => exact h.elim
theorem tgs_cons {g : Tg} {gs : List Tg} {vs : List V} {Q : L2.St → Hp → Prop} (h : tgs C P (g :: gs) vs σ H Q) : gCons (tg C P g) (tgs C P gs) vs σ H Q := by
  obtain ⟨G, fp, env, xs, ok, re, r, h⟩ := h
  cases r with
  | nil => exact h.elim
  | cons a b =>
    rename_i v vs x xs
    refine ⟨v, vs, rfl, G, [], fp, env, .f x, ok, re, .f a, ?_⟩
    have h : match (match g (.f x) env with | some e' => agAll gs xs e' | none => none) with | none => False | some e => Kn C P σ G H fp e Q := h
    cases q : g (.f x) env with
    | none => rw [q] at h; exact h.elim
    | some e =>
      rw [q] at h
      dsimp only at h
      intro σ' G' H' fq m ok' re' p
      refine ⟨G', fq, e, xs, ok', re', b.sub m.gs, ?_⟩
      cases q2 : agAll gs xs e with
      | none => rw [q2] at h; exact h
      | some e2 => rw [q2] at h; exact Kn.seq h m p
theorem tup_tg {K : PySem.W.Frag} {gs : List Tg} {v : V} {n : Nat} {Q : L2.St → Hp → Prop} (hK : C.K = K) (hn : gs.length = n) (h : tg C P (gTupM gs) v σ H Q) : gTup K n (tgs C P gs) v σ H Q := by
  obtain ⟨G, f, fp, env, o, ok, re, ro, h⟩ := h
  unfold gTupM at h
  split at h
  · exact h.elim
  · rename_i e he
    split at he
    · rename_i xs q
      obtain ⟨a, vs, rfl, s, r, _⟩ := ro.seq ok.sub q
      have len : ∀ {gs : List Tg} {xs : List F} {e e' : Env}, agAll gs xs e = some e' → xs.length = gs.length := by
        intro gs
        induction gs with
        | nil => intro xs e e' h; cases xs with
          | nil => rfl
          | cons _ _ => cases h
        | cons g gs ih => intro xs e e' h; cases xs with
          | nil => cases h
          | cons x xs =>
            have h : (match g (.f x) e with | some e' => agAll gs xs e' | none => none) = some e' := h
            split at h
            · simp [ih h]
            · cases h
      refine ⟨a, vs, rfl, hK ▸ s, by rw [r.length, len he, hn], G, fp, env, xs, ok.sub_of (List.nodup_append.mp ok.nd).2.1 fun a ha => List.mem_append_right _ ha, re, r, ?_⟩
      rw [he]
      exact Kn.seq h (Mv.weak .refl fun a ha => List.mem_append_right _ ha) .refl |> fun z => by
        intro σ' G' H' fq m ok' re' p
        refine h σ' G' H' fq ?_ ok' re' p
        exact ⟨m.gs, fun a u h => (m.fz a u h).imp_right fun z => z.imp_left fun y => List.mem_append_right _ y, fun a u h n t => m.fr a u h (fun z => n (List.mem_append_right _ z)) t, fun a h => (m.nw a h).imp_left fun y => List.mem_append_right _ y, m.th⟩
    · cases he
end
section
variable {X : Cx} {C : Ct} {P : Nat → Bool} {e : Expr} {es : List Expr} {g : Tg} {gs : List Tg} {pos : Pos}
theorem pgsm_nil : PGs X [] (tgs C P []) := ⟨fun pins s σ H vs us Q I r h => pgs_nil.run pins s σ H vs us Q I r (tgs_nil h)⟩
theorem pgsm_cons (h1 : PG X e (tg C P g)) (h2 : PGs X es (tgs C P gs)) (hs : (assignEach (e :: es) X.env).map (·.2) = assign e X.env :: (assignEach es X.env).map (·.2) := by rfl) : PGs X (e :: es) (tgs C P (g :: gs)) :=
  ⟨fun pins s σ H vs us Q I r h => (pgs_cons h1 h2 hs).run pins s σ H vs us Q I r (tgs_cons h)⟩
theorem pgm_tup {k : Nat} {n : Nat} (hc : X.calm = true) (hK : C.K = X.K) (h : PGs X es (tgs C P gs)) (hl : gs.length = n := by rfl)
    (hn : (assignEach es X.env).length = n := by rfl) (hst : (assignEach es X.env).findIdx? (·.1) = none := by rfl) : PG X (.Tuple es k pos) (tg C P (gTupM gs)) :=
  ⟨fun pins s σ H v u Q I r hw => (pg_tup (pos := pos) hc h hn hst).run pins s σ H v u Q I r (tup_tg hK hl hw)⟩
end
def mIter (m : M O) : M (List O) := fun env => match m env with
  | some (.ok o e) => (match o.seq with
    | some (_, xs) => some (.ok (xs.map .f) e)
    | none => none)
  | some (.ex x e) => some (.ex x e)
  | none => none
def iSq (K : PySem.W.Frag) (tl : TE) : TI := fun σ H R => tl σ H fun x H1 => ∃ a b xs, x = .ref a ∧ SqB K H1 a xs b ∧ R (if b = true then Itt K a else Itl K a) H1
theorem pi_sq {X : Cx} {tg l : Expr} {tl : TE} (hl : PE X l tl) : PI X tg l (iSq X.K tl) := by
  refine ⟨fun pins s σ H R I h => thn (hl.run pins s σ H _ I h) fun v s1 ⟨x, H1, I1, r1, q1⟩ => ?_⟩
  obtain ⟨a, b, xs, rfl, hq, q⟩ := q1
  cases r1
  have new : ∀ b' ∈ [s1.heap.objs.size], FpOk X pins H1 b' := fun b' hb => by
    rw [List.mem_singleton.mp hb]
    exact I1.fpOk (Nat.le_refl _) (I1.hok.fresh (Nat.le_refl _))
  have hp : ∀ (o : Obj) b' u, s1.heap.get? b' = some u → (s1.heap.push o).get? b' = some u := fun o b' u e => Heap.get?_push_of_some _ e
  cases b with
  | false =>
    obtain ⟨its, rv, p, hz⟩ := I1.list (.of hq)
    exact wpAny_pyIter_list p.isList ⟨s1.heap.objs.size, [s1.heap.objs.size], _, _, H1, rfl, I1.kept (t' := s1.toks) (hp _), turn_list a _, ⟨_, Heap.get?_push_size _ rfl, rfl, rfl⟩, new, q⟩
  | true =>
    obtain ⟨its, rv, p, hz⟩ := I1.tuple hq
    exact wpAny_pyIter_tuple (show s1.heap.IsTuple a its.toArray from p) ⟨s1.heap.objs.size, [s1.heap.objs.size], _, _, H1, rfl, I1.kept (t' := s1.toks) (hp _), turn_tuple a _, ⟨_, Heap.get?_push_size _ rfl, rfl, rfl⟩, new, q⟩
section
variable {C : Ct} {W : WX} {σ : L2.St} {G H G' H' : Hp} {fp fq f : List Addr} {env : Env}
theorem IO.sub {G G' : Hp} {J : It} {xs : List O} (h : IO C G J xs) (hs : ∀ a u, G a = some u → G' a = some u) : IO C G' J xs := fun G2 H fp hg ok => h G2 H fp (fun a u z => hg a u (hs a u z)) ok
theorem fz_seq {o : O} {z : Bool × List F} (e : o.seq = some z) : o.fz.seq = some z := by
  cases o with
  | f x => exact e
  | w ps => exact e
  | l xs => exact e
  | i c os => cases e
theorem io_seq {a : Addr} {b : Bool} {vs : List V} {xs : List F} (s : SqB C.K G a vs b) (r : RFs C G vs xs) : IO C G (if b = true then Itt C.K a else Itl C.K a) (xs.map .f) := by
  intro G2 H fp hg ok
  have hs : ∀ a u, G a = some u → H a = some u := fun a u h => ok.sub a u (hg a u h)
  have s1 := s.sub hs
  have r1 := r.sub hg
  refine ⟨fun i x hx => ?_, ?_⟩
  · rw [List.getElem?_map] at hx
    cases q : xs[i]? with
    | none => rw [q] at hx; cases hx
    | some y =>
      rw [q] at hx
      cases hx
      obtain ⟨v, hv, rv⟩ := r1.get q
      cases b with
      | false => exact ⟨⟨vs, v, .of s1, hv⟩, fun w H' ⟨e, h⟩ => by
          have := h vs (.of s1)
          rw [hv] at this; cases this; subst e
          exact ⟨G2, [], Ad.refl ok, .f rv⟩⟩
      | true => exact ⟨⟨vs, v, s1, hv⟩, fun w H' ⟨e, h⟩ => by
          have := h vs s1
          rw [hv] at this; cases this; subst e
          exact ⟨G2, [], Ad.refl ok, .f rv⟩⟩
  · rw [List.length_map, ← r1.length]
    cases b with
    | false => exact ⟨vs, .of s1, Nat.le_refl _⟩
    | true => exact ⟨vs, s1, Nat.le_refl _⟩
theorem rest_of {v : V} {o : O} {fv : List Addr} (ok : Ok C G H (fv ++ fq)) (re : RE C G H σ env fq) (ro : RO C G H v o fv) :
    Mv G H (fv ++ fq) (still G H fv) H fq ∧ Ok C (still G H fv) H fq ∧ RE C (still G H fv) H σ env fq ∧ RF C (still G H fv) v o.fz := by
  have ds : ∀ a ∈ fv, G a = none := fun a ha => ok.ds a (List.mem_append_left _ ha)
  exact ⟨Mv.still ok, ok.still ro.own, re.mv (still_sub ds) (fun a _ u h _ => h), ro.fz (still_sub ds) fun a ha => still_in ha⟩
theorem iter_run {m : M O} {R : It → Hp → Prop} (h : ti C W (mIter m) σ H R) : iSq C.K (te C W m) σ H R := by
  obtain ⟨G, fp, env, ok, re, h⟩ := h
  refine ⟨G, fp, env, ok, re, ?_⟩
  unfold mIter at h
  cases q : m env with
  | none => simp only [q] at h; exact (show False from h).elim
  | some z =>
    cases z with
    | ex x e => simp only [q] at h; exact h
    | ok o e =>
      simp only [q] at h
      intro G1 H1 v fv fq m1 ok1 re1 ro
      cases q1 : o.seq with
      | none => simp only [q1] at h; exact (show False from h).elim
      | some z =>
        obtain ⟨b, xs⟩ := z
        simp only [q1] at h
        obtain ⟨m2, ok2, re2, rf⟩ := rest_of ok1 re1 ro
        obtain ⟨a, vs, rfl, s, r, _⟩ := rf.seq (fz_seq q1)
        exact ⟨a, b, vs, rfl, s.sub ok2.sub, h _ H1 fq _ (Mv.seq (fv := []) m1 m2) ok2 re2 (io_seq s r)⟩
def rng (lo : Int) (n : Nat) : List O := (List.range n).map fun i => .p (.int (lo + (i : Nat)))
def rngC (lo c : Int) (n : Nat) : List O := (List.range n).map fun i => .p (.int (lo + (i : Nat) * c))
theorem io_rng {lo : Int} {n : Nat} : IO C G (Itr lo n) (rng lo n) := by
  intro G2 H fp hg ok
  refine ⟨fun i x hx => ?_, ?_⟩
  · unfold rng at hx
    rw [List.getElem?_map] at hx
    by_cases hi : i < n
    · rw [List.getElem?_range hi] at hx
      cases hx
      exact ⟨hi, fun v H' ⟨e, h⟩ => by subst e h; exact ⟨G2, [], Ad.refl ok, .f (.d (.int _))⟩⟩
    · rw [List.getElem?_eq_none (by simpa using hi)] at hx; cases hx
  · unfold rng
    rw [List.length_map, List.length_range]
    exact Nat.le_refl _
theorem io_rngC {lo c : Int} {n : Nat} : IO C G (Itc lo c n) (rngC lo c n) := by
  intro G2 H fp hg ok
  refine ⟨fun i x hx => ?_, ?_⟩
  · unfold rngC at hx
    rw [List.getElem?_map] at hx
    by_cases hi : i < n
    · rw [List.getElem?_range hi] at hx
      cases hx
      exact ⟨hi, fun v H' ⟨e, h⟩ => by subst e h; exact ⟨G2, [], Ad.refl ok, .f (.d (.int _))⟩⟩
    · rw [List.getElem?_eq_none (by simpa using hi)] at hx; cases hx
  · unfold rngC
    rw [List.length_map, List.length_range]
    exact Nat.le_refl _
def mIt (f : List O → Option (List O)) (as : List Opd) : M (List O) := fun env => match mArgs as env with
  | some (.ok ls e) => (match lzGets e ls with
    | some os => (match f os with
      | some xs => some (.ok xs e)
      | none => none)
    | none => none)
  | some (.ex x e) => some (.ex x e)
  | none => none
def rIt (C : Ct) (f : List O → Option (List O)) : List V → Hp → (It → Hp → Prop) → Prop := fun vs H R => ∃ (G : Hp) (fp : List Addr) (os : List O) (xs : List O), Ok C G H fp ∧ RAs C G H fp vs os ∧ f os = some xs ∧ ∀ J, IO C G J xs → R J H
theorem it_run {f : List O → Option (List O)} {as : List Opd} {R : It → Hp → Prop} (h : ti C W (mIt f as) σ H R) : tAs C W as σ H (fun vs H' => rIt C f vs H' R) := by
  obtain ⟨G, fp, env, ok, re, h⟩ := h
  refine args_run ok re ?_
  unfold mIt at h
  cases q : mArgs as env with
  | none => rw [q] at h; exact h
  | some z =>
    rw [q] at h
    cases z with
    | ex x e => exact h
    | ok ls e =>
      intro G' H' vs fq m o r l
      dsimp only at h
      cases q1 : lzGets e ls with
      | none => simp only [q1] at h; exact (show False from h).elim
      | some os =>
        simp only [q1] at h
        cases q2 : f os with
        | none => simp only [q2] at h; exact (show False from h).elim
        | some xs =>
          simp only [q2] at h
          exact ⟨G', fq, os, xs, o, gets_ok l r q1, q2, fun J io => h G' H' fq J m o r io⟩
def fRng1 : List O → Option (List O)
  | [.f (.d (.int j))] => if -(2 ^ 62) ≤ j ∧ j < 2 ^ 62 then some (rng 0 j.toNat) else none
  | _ => none
def fRng2 : List O → Option (List O)
  | [.f (.d (.int i)), .f (.d (.int j))] => if -(2 ^ 62) ≤ i ∧ i < 2 ^ 62 ∧ -(2 ^ 62) ≤ j ∧ j < 2 ^ 62 then some (rng i (j - i).toNat) else none
  | _ => none
def fRngD : List O → Option (List O)
  | [.f (.d (.int i)), .f (.d (.int j)), .f (.d (.int c))] => if c = -1 ∧ -(2 ^ 62) ≤ i ∧ i < 2 ^ 62 ∧ -(2 ^ 62) ≤ j ∧ j < 2 ^ 62 then some (rngC i (-1) (i - j).toNat) else none
  | _ => none
theorem rng1_run {vs : List V} {R : It → Hp → Prop} (h : rIt C fRng1 vs H R) : ∃ j : Int, vs = [.int j] ∧ -(2 ^ 62) ≤ j ∧ j < 2 ^ 62 ∧ R (Itr 0 j.toNat) H := by
  obtain ⟨G, fp, os, xs, ok, ra, e, k⟩ := h
  unfold fRng1 at e
  split at e
  · split at e
    · rename_i hj; cases e
      cases ra with
      | cons r1 _ rn => cases rn; exact ⟨_, by rw [r1.int], hj.1, hj.2, k _ io_rng⟩
    · cases e
  · cases e
theorem rng2_run {vs : List V} {R : It → Hp → Prop} (h : rIt C fRng2 vs H R) : ∃ i j : Int, vs = [.int i, .int j] ∧ (-(2 ^ 62) ≤ i ∧ i < 2 ^ 62 ∧ -(2 ^ 62) ≤ j ∧ j < 2 ^ 62) ∧ R (Itr i (j - i).toNat) H := by
  obtain ⟨G, fp, os, xs, ok, ra, e, k⟩ := h
  unfold fRng2 at e
  split at e
  · split at e
    · rename_i hj; cases e
      cases ra with
      | cons r1 _ rn =>
        cases rn with
        | cons r2 _ rn => cases rn; exact ⟨_, _, by rw [r1.int, r2.int], hj, k _ io_rng⟩
    · cases e
  · cases e
theorem rngD_run {vs : List V} {R : It → Hp → Prop} (h : rIt C fRngD vs H R) : ∃ (i j c : Int) (n : Nat), vs = [.int i, .int j, .int c] ∧ RgC i j c n ∧ R (Itc i c n) H := by
  obtain ⟨G, fp, os, xs, ok, ra, e, k⟩ := h
  unfold fRngD at e
  split at e
  · split at e
    · rename_i hj; cases e
      obtain ⟨rfl, h1, h2, h3, h4⟩ := hj
      cases ra with
      | cons r1 _ rn =>
        cases rn with
        | cons r2 _ rn =>
          cases rn with
          | cons r3 _ rn => cases rn; exact ⟨_, _, _, _, by rw [r1.int, r2.int, r3.int], RgC.neg h1 h2 h3 h4, k _ io_rngC⟩
    · cases e
  · cases e
def enumF : Nat → List F → List O
  | _, [] => []
  | i, x :: xs => .f (mkT [.d (.int (i : Nat)), x]) :: enumF (i + 1) xs
theorem enumF_get : ∀ {xs : List F} {k i : Nat} {o : O}, (enumF k xs)[i]? = some o → ∃ x, xs[i]? = some x ∧ o = .f (mkT [.d (.int ((k + i : Nat) : Nat)), x])
  | [], _, _, _, h => by simp [enumF] at h
  | x :: xs, k, 0, o, h => by simp [enumF] at h; subst h; exact ⟨x, rfl, rfl⟩
  | x :: xs, k, i + 1, o, h => by
    obtain ⟨y, h1, h2⟩ := enumF_get (k := k + 1) (i := i) (by simpa [enumF] using h)
    exact ⟨y, by simpa using h1, by rw [h2, show k + 1 + i = k + (i + 1) by omega]⟩
theorem enumF_len : ∀ {xs : List F} {k : Nat}, (enumF k xs).length = xs.length
  | [], _ => rfl
  | _ :: xs, k => by simp [enumF, enumF_len]
theorem io_enum {a : Addr} {vs : List V} {xs : List F} (s : SqL C.K G a vs) (r : RFs C G vs xs) : IO C G (Ite C.K a) (enumF 0 xs) := by
  intro G2 H fp hg ok
  have hs : ∀ a u, G a = some u → H a = some u := fun a u h => ok.sub a u (hg a u h)
  have s1 := sql_sub hs s
  have r1 := r.sub hg
  refine ⟨fun i x hx => ?_, ?_⟩
  · obtain ⟨y, q, rfl⟩ := enumF_get hx
    obtain ⟨v, hv, rv⟩ := r1.get q
    refine ⟨⟨vs, v, s1, hv⟩, fun w H' ⟨T, z, ew, hT, eH, h⟩ => ?_⟩
    have := h vs s1
    rw [hv] at this; cases this; subst ew eH
    have ad : Ad G2 H (upd G2 T (.tup [.int (i : Nat), v])) (upd H T (.tup [.int (i : Nat), v])) [] := Ad.still ok hT fun _ z => by cases z
    refine ⟨_, [], ad, .f (RF.mkT upd_same (.cons ?_ (.cons (rv.sub ad.gs) .nil)))⟩
    rw [Nat.zero_add]
    exact .d (.int _)
  · rw [enumF_len, ← r1.length]
    exact ⟨vs, s1, Nat.le_refl _⟩
def fEnum : List O → Option (List O)
  | [.f x] => (match x.seq with
    | some (false, xs) => some (enumF 0 xs)
    | _ => none)
  | _ => none
theorem enum_run {K : PySem.W.Frag} (hK : C.K = K) {vs : List V} {R : It → Hp → Prop} (h : rIt C fEnum vs H R) : ∃ a xs, vs = [.ref a] ∧ SqL K H a xs ∧ R (Ite K a) H := by
  obtain ⟨G, fp, os, xs, ok, ra, e, k⟩ := h
  unfold fEnum at e
  split at e
  · split at e
    · rename_i ys q; cases e
      cases ra with
      | cons r1 _ rn =>
        cases rn
        cases r1 with
        | f r1 =>
          obtain ⟨a, ws, rfl, s, r, _⟩ := r1.seq q
          exact ⟨a, ws, rfl, .of (ok.sub _ _ s), hK ▸ k _ (io_enum (.of s) r)⟩
    · cases e
  · cases e
def zipF : List F → List F → List O
  | x :: xs, y :: ys => .f (mkT [x, y]) :: zipF xs ys
  | _, _ => []
theorem zipF_get : ∀ {xs ys : List F} {i : Nat} {o : O}, (zipF xs ys)[i]? = some o → ∃ x y, xs[i]? = some x ∧ ys[i]? = some y ∧ o = .f (mkT [x, y])
  | [], _, _, _, h => by simp [zipF] at h
  | _ :: _, [], _, _, h => by simp [zipF] at h
  | x :: xs, y :: ys, 0, o, h => by simp [zipF] at h; subst h; exact ⟨x, y, rfl, rfl, rfl⟩
  | x :: xs, y :: ys, i + 1, o, h => by
    obtain ⟨a, b, h1, h2, h3⟩ := zipF_get (i := i) (by simpa [zipF] using h)
    exact ⟨a, b, by simpa using h1, by simpa using h2, h3⟩
theorem zipF_len : ∀ {xs ys : List F}, xs.length ≤ (zipF xs ys).length ∨ ys.length ≤ (zipF xs ys).length
  | [], _ => .inl (by simp)
  | _ :: _, [] => .inr (by simp)
  | x :: xs, y :: ys => by
    rcases zipF_len (xs := xs) (ys := ys) with h | h
    · exact .inl (by simpa [zipF] using h)
    · exact .inr (by simpa [zipF] using h)
end
section
variable {X : Cx} {C : Ct} {W : WX} {tg e : Expr} {es : List Expr} {m : M O} {as : List Opd} {p pos : Pos}
theorem _root_.L2.PI.imp {X : Cx} {tg e : Expr} {t u : TI} (h : PI X tg e t) (k : ∀ σ H R, u σ H R → t σ H R) : PI X tg e u := ⟨fun pins s σ H R I q => h.run pins s σ H R I (k σ H R q)⟩
theorem pim_seq (hK : C.K = X.K) (he : PE X e (te C W m)) : PI X tg e (ti C W (mIter m)) := (pi_sq he).imp fun _ _ _ h => hK ▸ iter_run h
theorem pim_rng1 {a : Expr} {oa : Opd} (hg : Gl X "range") (hm : X.mg "range" = none) (ha : PE X a (tO C W oa)) (h0 : starEach [a] X.env = (false, eval a X.env) :: starEach [] X.env := by rfl) (hs : starEach [a] X.env = [(false, eval a X.env)] := by rfl) :
    PI X tg (.Call (.Name "range" p) [a] [] pos) (ti C W (mIt fRng1 [oa])) := (pi_range1 hg hm (pa_cons ha pa_nil h0) hs).imp fun _ _ _ h => tO_mono (a := oa) (it_run h) fun _ _ q => rng1_run q
theorem pim_rng2 {a b : Expr} {oa ob : Opd} (hg : Gl X "range") (hm : X.mg "range" = none) (ha : PE X a (tO C W oa)) (hb : PE X b (tO C W ob)) (h0 : starEach [a, b] X.env = (false, eval a X.env) :: starEach [b] X.env := by rfl) (h1 : starEach [b] X.env = (false, eval b X.env) :: starEach [] X.env := by rfl)
    (hs : starEach [a, b] X.env = [(false, eval a X.env), (false, eval b X.env)] := by rfl) (hs2 : starEach [b] X.env = [(false, eval b X.env)] := by rfl) :
    PI X tg (.Call (.Name "range" p) [a, b] [] pos) (ti C W (mIt fRng2 [oa, ob])) := (pi_range2 hg hm (pa_cons ha (pa_cons hb pa_nil h1) h0) hs hs2).imp fun _ _ _ h => tO_mono (a := oa) (it_run h) fun _ _ q => tO_mono (a := ob) q fun _ _ q => rng2_run q
theorem pim_rngD {a b c : Expr} {oa ob oc : Opd} (hg : Gl X "range") (hm : X.mg "range" = none) (ha : PE X a (tO C W oa)) (hb : PE X b (tO C W ob)) (hc : PE X c (tO C W oc)) (h0 : starEach [a, b, c] X.env = (false, eval a X.env) :: starEach [b, c] X.env := by rfl) (h1 : starEach [b, c] X.env = (false, eval b X.env) :: starEach [c] X.env := by rfl)
    (h2 : starEach [c] X.env = (false, eval c X.env) :: starEach [] X.env := by rfl) (hpl : (backTo pos (starEach [b, c] X.env)).any (·.1) = false := by rfl) :
    PI X tg (.Call (.Name "range" p) [a, b, c] [] pos) (ti C W (mIt fRngD [oa, ob, oc])) := (pi_range3 hg hm (pa_cons ha (pa_cons hb (pa_cons hc pa_nil h2) h1) h0) h0 hpl).imp fun _ _ _ h => tO_mono (a := oa) (it_run h) fun _ _ q => tO_mono (a := ob) q fun _ _ q => tO_mono (a := oc) q fun _ _ q => rngD_run q
theorem pim_enum {elts : List Expr} {kk : Nat} {tpos : Pos} (hK : C.K = X.K) (hg : Gl X "enumerate") (hm : X.mg "enumerate" = none) (ha : PE X e (te C W m)) (h0 : starEach [e] X.env = (false, eval e X.env) :: starEach [] X.env := by rfl) (hs : starEach [e] X.env = [(false, eval e X.env)] := by rfl) :
    PI X (.Tuple elts kk tpos) (.Call (.Name "enumerate" p) [e] [] pos) (ti C W (mIt fEnum [.e m])) := (pi_enum hg hm (pa_cons ha pa_nil h0) hs).imp fun _ _ _ h => te_mono (it_run (as := [.e m]) h) fun _ _ q => enum_run hK q
end
end Mi
set_option Elab.async false
set_option linter.all false
set_option maxRecDepth 100000
set_option maxHeartbeats 2000000
namespace Mi
open PySem PySem.Spec PyProof.Rows L2
def wipeE (e : Env) : List Nat → Env
  | [] => e
  | v :: vs => (wipeE e vs).set v none
def backE (e0 : Env) (e : Env) : List Nat → Env
  | [] => e
  | v :: vs => backE e0 (e.set v (match e0[v]? with
    | some (some (.f x)) => some (.f x)
    | _ => none)) vs
abbrev WF : WX := fun _ _ _ _ => False
def cG (g : Tg) (c : M Bool) (m : M O) (vs : List Nat) : List O → Env → Option (List F × Env)
  | [], e => some ([], e)
  | x :: xs, e => match g x e with
    | none => none
    | some e1 => match c e1 with
      | some (.ok true e2) => (match m e2 with
        | some (.ok o e3) => (match cG g c m vs xs (wipeE e3 vs) with
          | some (ys, e4) => some (o.fz :: ys, e4)
          | none => none)
        | _ => none)
      | some (.ok false e2) => cG g c m vs xs (wipeE e2 vs)
      | _ => none
def mLc (im : M (List O)) (vs : List Nat) (g : Tg) (c : M Bool) (m : M O) : M O := fun env => match im env with
  | some (.ok xs e) => if xs.length ≤ sizeLine then (match cG g c m vs xs (wipeE e vs) with
    | some (ys, e') => some (.ok (mkL ys) (backE e e' vs))
    | none => none) else none
  | some (.ex x e) => some (.ex x e)
  | none => none
def mYes : M Bool := fun e => some (.ok true e)
section
variable {C : Ct} {W : WX} {P : Nat → Bool} {σ σ' : L2.St} {G H G' H' : Hp} {fp fq f : List Addr} {env e : Env}
theorem RE.drop1 : ∀ {env : Env} {σ : L2.St} {fp : List Addr} (i : Nat) (v : Option V), RE C G H σ env fp → fp.Nodup → ∃ fq, RE C G H (σ.set i v) (env.set i none) fq ∧ fq.Nodup ∧ ∀ a ∈ fq, a ∈ fp
  | _, _, _, i, v, .nil, nd => ⟨[], .nil, nd, fun _ h => h⟩
  | _, _, _, 0, v, .no b, nd => ⟨_, .no b, nd, fun _ h => h⟩
  | _, _, _, 0, v, .so a b, nd => ⟨_, .no b, (List.nodup_append.mp nd).2.1, fun _ h => List.mem_append_right _ h⟩
  | _, _, _, i + 1, v, .no b, nd => by
    obtain ⟨fq, r, n, m⟩ := RE.drop1 i v b nd
    exact ⟨fq, .no r, n, m⟩
  | _, _, _, i + 1, v, .so (f := f) a b, nd => by
    obtain ⟨fq, r, n, m⟩ := RE.drop1 i v b (List.nodup_append.mp nd).2.1
    exact ⟨f ++ fq, .so a r, List.nodup_append.mpr ⟨(List.nodup_append.mp nd).1, n, fun x hx y hy z => (List.nodup_append.mp nd).2.2 x hx y (m y hy) z⟩, fun x hx => (List.mem_append.mp hx).elim (List.mem_append_left _) fun z => List.mem_append_right _ (m x z)⟩
theorem RE.wipe (re : RE C G H σ env fp) (nd : fp.Nodup) : ∀ vs : List Nat, ∃ fq, RE C G H (L2.wipe σ vs) (wipeE env vs) fq ∧ fq.Nodup ∧ ∀ a ∈ fq, a ∈ fp
  | [] => ⟨fp, re, nd, fun _ h => h⟩
  | v :: vs => by
    obtain ⟨fq, r, n, m⟩ := RE.wipe re nd vs
    obtain ⟨fr, r2, n2, m2⟩ := r.drop1 v none n
    exact ⟨fr, r2, n2, fun a h => m a (m2 a h)⟩
theorem RE.any : ∀ {env : Env} {σ : L2.St} {fp : List Addr} (i : Nat) (v w : Option V), RE C G H (σ.set i v) (env.set i none) fp → RE C G H (σ.set i w) (env.set i none) fp
  | [], [], _, i, v, w, h => by simpa using h
  | [], _ :: _, _, 0, v, w, h => by simp at h; cases h
  | [], _ :: _, _, i + 1, v, w, h => by simp at h; cases h
  | _ :: _, [], _, 0, v, w, h => by simp at h; cases h
  | _ :: _, [], _, i + 1, v, w, h => by simp at h; cases h
  | _ :: env, _ :: σ, _, 0, v, w, h => by
    simp only [List.set_cons_zero] at h ⊢
    cases h with
    | no h => exact .no h
  | a :: env, b :: σ, _, i + 1, v, w, h => by
    simp only [List.set_cons_succ] at h ⊢
    cases h with
    | no h => exact .no (RE.any i v w h)
    | so x h => exact .so x (RE.any i v w h)
theorem RE.still_slot : ∀ {env : Env} {σ : L2.St} {fp : List Addr} (i : Nat) {v : V} {x : F}, RE C G H σ (env.set i none) fp → σ[i]? = some (some v) → RF C G v x → RE C G H σ (env.set i (some (.f x))) fp
  | [], _, _, i, v, x, h, e, r => by simpa using h
  | _ :: _, [], _, i, v, x, h, e, r => by simp at e
  | a :: env, b :: σ, _, 0, v, x, h, e, r => by
    simp only [List.set_cons_zero] at h ⊢
    simp at e
    subst e
    cases h with
    | no h => exact (.so (.f r) h : RE C G H _ _ ([] ++ _))
  | a :: env, b :: σ, _, i + 1, v, x, h, e, r => by
    simp only [List.set_cons_succ] at h ⊢
    cases h with
    | no h => exact .no (RE.still_slot i h (by simpa using e) r)
    | so y h => exact .so y (RE.still_slot i h (by simpa using e) r)
theorem wipe_at {σ : L2.St} {i : Nat} : ∀ {vs : List Nat}, i ∉ vs → (L2.wipe σ vs)[i]? = σ[i]?
  | [], _ => rfl
  | v :: vs, h => by
    simp only [List.mem_cons, not_or] at h
    unfold L2.wipe
    rw [List.getElem?_set_ne (Ne.symm h.1)]
    exact wipe_at h.2
theorem wipe_in {σ : L2.St} {i : Nat} : ∀ {vs : List Nat}, i ∈ vs → i < σ.length → (L2.wipe σ vs)[i]? = some none
  | v :: vs, h, hi => by
    unfold L2.wipe
    by_cases e : v = i
    · subst e
      rw [List.getElem?_set_self (by rw [L2.wipe_length]; exact hi)]
    · rw [List.getElem?_set_ne e]
      rcases List.mem_cons.mp h with z | z
      · exact absurd z.symm e
      · exact wipe_in z hi
theorem wipe_eq {vs : List Nat} (hl : σ'.length = σ.length) (h : ∀ i, i ∉ vs → σ'[i]? = σ[i]?) : L2.wipe σ' vs = L2.wipe σ vs := by
  apply List.ext_getElem?
  intro i
  by_cases hi : i ∈ vs
  · by_cases hs : i < σ.length
    · rw [wipe_in hi hs, wipe_in hi (by omega)]
    · rw [List.getElem?_eq_none (by rw [L2.wipe_length]; omega), List.getElem?_eq_none (by rw [L2.wipe_length]; omega)]
  · rw [wipe_at hi, wipe_at hi, h i hi]
theorem wipe_wipe (σ : L2.St) (vs : List Nat) : L2.wipe (L2.wipe σ vs) vs = L2.wipe σ vs := wipe_eq (L2.wipe_length σ vs) fun _ h => wipe_at h
theorem RE.back {e0 : Env} (hs : ∀ a u, G a = some u → G' a = some u) (r0 : RE C G H σ e0 f) : ∀ {vs : List Nat} {τ : L2.St} {e : Env} {fp : List Addr}, RE C G' H' τ e fp → fp.Nodup → τ.length = σ.length → (∀ i, i ∉ vs → τ[i]? = σ[i]?) →
    ∃ fq, RE C G' H' σ (backE e0 e vs) fq ∧ fq.Nodup ∧ ∀ a ∈ fq, a ∈ fp
  | [], τ, e, fp, r, nd, hl, h => by
    have : τ = σ := List.ext_getElem? fun i => h i (by simp)
    subst this
    exact ⟨fp, r, nd, fun _ h => h⟩
  | v :: vs, τ, e, fp, r, nd, hl, h => by
    obtain ⟨fq, r1, n1, m1⟩ := r.drop1 v (σ[v]?.join) nd
    have hl1 : (τ.set v (σ[v]?.join)).length = σ.length := by rw [List.length_set]; exact hl
    have h1 : ∀ i, i ∉ vs → (τ.set v (σ[v]?.join))[i]? = σ[i]? := fun i hi => by
      by_cases z : v = i
      · subst z
        by_cases hv : v < σ.length
        · rw [List.getElem?_set_self (by omega), List.getElem?_eq_getElem hv]; rfl
        · rw [List.getElem?_eq_none (by rw [List.length_set]; omega), List.getElem?_eq_none (by omega)]
      · rw [List.getElem?_set_ne z]
        exact h i (by simp only [List.mem_cons, not_or]; exact ⟨Ne.symm z, hi⟩)
    have fin : ∀ {e1 : Env}, RE C G' H' (τ.set v (σ[v]?.join)) e1 fq → e.set v (match e0[v]? with | some (some (.f x)) => some (.f x) | _ => none) = e1 → ∃ fr, RE C G' H' σ (backE e0 e (v :: vs)) fr ∧ fr.Nodup ∧ ∀ a ∈ fr, a ∈ fp := fun {e1} r2 ee => by
      subst ee
      obtain ⟨fr, a, b, c⟩ := RE.back hs r0 r2 n1 hl1 h1
      exact ⟨fr, a, b, fun x hx => m1 x (c x hx)⟩
    cases q : e0[v]? with
    | none => exact fin r1 (by rw [q])
    | some z =>
      cases z with
      | none => exact fin r1 (by rw [q])
      | some o =>
        cases o with
        | f x =>
          obtain ⟨w, g1, g, g2, k1, _, k3, _⟩ := r0.get q
          cases k3 with
          | f k3 =>
            refine fin (e1 := e.set v (some (.f x))) (r1.still_slot v ?_ (k3.sub hs)) (by rw [q])
            rw [k1]
            exact List.getElem?_set_self (by rw [hl]; exact (List.getElem?_eq_some_iff.mp k1).1)
        | w _ => exact fin r1 (by rw [q])
        | l _ => exact fin r1 (by rw [q])
        | i _ _ => exact fin r1 (by rw [q])
theorem Pin.wipe {vs : List Nat} (hP : ∀ i, i ∉ vs → P i = true) (p : Pin P (L2.wipe σ vs) σ') : L2.wipe σ' vs = L2.wipe σ vs := by
  rw [← wipe_wipe σ vs]
  exact wipe_eq p.1 fun i hi => p.2 i (hP i hi)
theorem lc_run {im : M (List O)} {vs : List Nat} {g : Tg} {c : M Bool} {m : M O} {Q : VK} (hP : ∀ i, i ∉ vs → P i = true) (h : te C W (mLc im vs g c m) σ H Q) : tLc (ti C W im) (tg C P g) (tt C WF c) (te C WF m) vs σ H Q := by
  obtain ⟨G, fp, env, ok, re, h⟩ := h
  refine ⟨G, fp, env, ok, re, ?_⟩
  unfold mLc at h
  cases q : im env with
  | none => simp only [q] at h; exact (show False from h).elim
  | some z =>
    cases z with
    | ex x e => simp only [q] at h; exact h
    | ok xs e =>
      simp only [q] at h
      by_cases hlen : xs.length ≤ sizeLine
      · rw [if_pos hlen] at h
        cases q0 : cG g c m vs xs (wipeE e vs) with
        | none => simp only [q0] at h; exact (show False from h).elim
        | some z =>
          obtain ⟨ys, e'⟩ := z
          simp only [q0] at h
          intro G1 H1 f1 J m1 ok1 re1 io D hD
          obtain ⟨f2, re2, n2, mem2⟩ := re1.wipe ok1.nd vs
          refine ⟨fun i k H => k = xs.length - i ∧ i ≤ xs.length ∧ ∃ (G2 : Hp) (f : List Addr) (e2 : Env) (acc : List V) (aF : List F), (∀ a u, G1 a = some u → G2 a = some u) ∧ Mv G1 H1 f1 G2 H (D :: f) ∧ Ok C G2 H (D :: f) ∧ RE C G2 H (L2.wipe σ vs) e2 f ∧ H D = some (.lst acc) ∧ RFs C G2 acc aF ∧ aF.length ≤ i ∧
            ∃ zs, cG g c m vs (xs.drop i) e2 = some (zs, e') ∧ aF ++ zs = ys, ⟨xs.length, ?_⟩, ?_⟩
          · have ad : Ad G1 H1 G1 (upd H1 D (.lst [])) [D] := Ad.own ok1 hD
            have ok3 : Ok C G1 H1 f2 := ok1.sub_of n2 mem2
            refine ⟨by simp, Nat.zero_le _, G1, f2, wipeE e vs, [], [], fun _ _ h => h, ?_, ad.ok ok3 re2.nn, re2.ad ad, upd_same, .nil, Nat.zero_le _, ys, by rw [List.drop_zero]; exact q0, rfl⟩
            exact ad.mv.weak fun a ha => by
              simp only [List.mem_cons, List.mem_append] at ha ⊢
              rcases ha with x | x
              · exact .inl (.inl x)
              · exact .inr (mem2 a x)
          · rintro i k H2 ⟨rfl, hi, G2, f, e2, acc, aF, hg, mv, ok2, re2', hacc, ra, hal, zs, hz, eys⟩
            have okf : Ok C G2 H2 f := ok2.sub_of (List.nodup_cons.mp ok2.nd).2 fun a ha => List.mem_cons_of_mem _ ha
            obtain ⟨it, st⟩ := io G2 H2 f hg okf
            by_cases hlt : i < xs.length
            · have hx : xs[i]? = some xs[i] := by simp [hlt]
              obtain ⟨go, yl⟩ := it i _ hx
              refine .inr ⟨go, fun H => i + 1 ≤ xs.length ∧ ∃ (G2 : Hp) (f : List Addr) (e2 : Env) (acc : List V) (aF : List F), (∀ a u, G1 a = some u → G2 a = some u) ∧ Mv G1 H1 f1 G2 H (D :: f) ∧ Ok C G2 H (D :: f) ∧ RE C G2 H (L2.wipe σ vs) e2 f ∧ H D = some (.lst acc) ∧ RFs C G2 acc aF ∧ aF.length ≤ i + 1 ∧
                ∃ zs, cG g c m vs (xs.drop (i + 1)) e2 = some (zs, e') ∧ aF ++ zs = ys, fun H' z => ⟨xs.length - (i + 1), by omega, rfl, z⟩, fun v H3 y => ?_⟩
              obtain ⟨G3, fv, ad, ro⟩ := yl v H3 y
              rw [List.drop_eq_getElem_cons hlt] at hz
              have hz : (match g xs[i] e2 with
                | none => none
                | some e1 => match c e1 with
                  | some (.ok true e2) => (match m e2 with
                    | some (.ok o e3) => (match cG g c m vs (xs.drop (i + 1)) (wipeE e3 vs) with
                      | some (ys, e4) => some (o.fz :: ys, e4)
                      | none => none)
                    | _ => none)
                  | some (.ok false e2) => cG g c m vs (xs.drop (i + 1)) (wipeE e2 vs)
                  | _ => none) = some (zs, e') := hz
              have hDf : D ∉ f := (List.nodup_cons.mp ok2.nd).1
              have okA : Ok C G2 H2 ([D] ++ f) := ok2
              have okB : Ok C G3 H3 (fv ++ ([D] ++ f)) := ad.ok okA fun a ha => by
                rcases List.mem_append.mp ha with z | z
                · rw [List.mem_singleton.mp z, hacc]; simp
                · exact re2'.nn a z
              have pm : (fv ++ ([D] ++ f)).Perm ([D] ++ (fv ++ f)) := List.perm_iff_count.mpr fun a => by simp only [List.count_append]; omega
              have okC : Ok C G3 H3 ([D] ++ (fv ++ f)) := okB.sub_of (pm.nodup_iff.mp okB.nd) fun a ha => pm.mem_iff.mpr ha
              have okD : Ok C G3 H3 (fv ++ f) := okC.sub_of (List.nodup_append.mp okC.nd).2.1 fun a ha => List.mem_append_right _ ha
              have hD3 : H3 D = some (.lst acc) := ad.hs _ _ hacc
              have mB : Mv G1 H1 f1 G3 H3 ([D] ++ (fv ++ f)) := (Mv.seq (fv := []) mv ad.mv).weak fun a ha => pm.mem_iff.mpr ha
              refine ⟨G3, fv, f, e2, xs[i], okD, re2'.ad ad, ro, ?_⟩
              cases q3 : g xs[i] e2 with
              | none => simp only [q3] at hz; cases hz
              | some e3 =>
                simp only [q3] at hz
                show Kn C P _ G3 H3 (fv ++ f) e3 _
                intro s4 G4 H4 f4 m4 ok4 re4 p4
                have ws : L2.wipe s4 vs = L2.wipe σ vs := p4.wipe hP
                refine ⟨ws, G4, f4, e3, ok4, re4, ?_⟩
                have hown : ∀ {Hx : Hp}, Hx D = some (.lst acc) → ∀ a ∈ [D], ∃ u, Hx a = some u ∧ Nt u := fun {Hx} h a ha => by rw [List.mem_singleton.mp ha]; exact ⟨_, h, fun _ z => by cases z⟩
                have okE := okC.seq (fv := [D]) m4 ok4 (hown hD3)
                have mC := Mv.seq (fv := [D]) mB m4
                have hD4 : H4 D = some (.lst acc) := m4.fr D _ hD3 (fun z => (List.nodup_append.mp okC.nd).2.2 D (by simp) D z rfl) fun _ z => by cases z
                have hg4 : ∀ a u, G1 a = some u → G4 a = some u := mC.gs
                cases q4 : c e3 with
                | none => simp only [q4] at hz; cases hz
                | some z =>
                  cases z with
                  | ex x e => simp only [q4] at hz; cases hz
                  | ok b e5 =>
                    intro G5 H5 f5 m5 ok5 re5
                    have okF := okE.seq (fv := [D]) m5 ok5 (hown hD4)
                    have mD := Mv.seq (fv := [D]) mC m5
                    have hD5 : H5 D = some (.lst acc) := m5.fr D _ hD4 (fun z => (List.nodup_append.mp okE.nd).2.2 D (by simp) D z rfl) fun _ z => by cases z
                    cases b with
                    | false =>
                      simp only [q4] at hz
                      rw [if_neg Bool.false_ne_true]
                      obtain ⟨f6, re6, n6, mem6⟩ := re5.wipe ok5.nd vs
                      rw [ws] at re6
                      have mem7 : ∀ a ∈ D :: f6, a ∈ [D] ++ f5 := fun a ha => by
                        rcases List.mem_cons.mp ha with z | z
                        · rw [z]; simp
                        · exact List.mem_append_right _ (mem6 a z)
                      have nd7 : (D :: f6).Nodup := List.nodup_cons.mpr ⟨fun z => (List.nodup_append.mp okF.nd).2.2 D (by simp) D (mem6 D z) rfl, n6⟩
                      exact ⟨hlt, G5, f6, _, acc, aF, mD.gs, mD.weak mem7, okF.sub_of nd7 mem7, re6, hD5, ra.sub (fun a u h => m5.gs a u (m4.gs a u (ad.gs a u h))), Nat.le_succ_of_le hal, zs, hz, eys⟩
                    | true =>
                      simp only [q4] at hz
                      rw [if_pos rfl]
                      refine ⟨G5, f5, e5, ok5, re5, ?_⟩
                      cases q5 : m e5 with
                      | none => simp only [q5] at hz; cases hz
                      | some z =>
                        cases z with
                        | ex x e => simp only [q5] at hz; cases hz
                        | ok o e6 =>
                          simp only [q5] at hz
                          intro G6 H6 w fw f6 m6 ok6 re6 ro6
                          cases q6 : cG g c m vs (xs.drop (i + 1)) (wipeE e6 vs) with
                          | none => simp only [q6] at hz; cases hz
                          | some z =>
                            obtain ⟨ts, e7⟩ := z
                            simp only [q6] at hz
                            cases hz
                            obtain ⟨m7, ok7, re7, rf7⟩ := rest_of ok6 re6 ro6
                            have m8 : Mv G5 H5 f5 (still G6 H6 fw) H6 f6 := Mv.seq (fv := []) m6 m7
                            have okG := okF.seq (fv := [D]) m8 ok7 (hown hD5)
                            have mE := Mv.seq (fv := [D]) mD m8
                            have hD6 : H6 D = some (.lst acc) := m8.fr D _ hD5 (fun z => (List.nodup_append.mp okF.nd).2.2 D (by simp) D z rfl) fun _ z => by cases z
                            have ra6 : RFs C (still G6 H6 fw) acc aF := ra.sub fun a u h => m8.gs a u (m5.gs a u (m4.gs a u (ad.gs a u h)))
                            refine ⟨acc, hD6, by rw [ra.length]; omega, hlt, ?_⟩
                            have gD : still G6 H6 fw D = none := okG.ds D (by simp)
                            have okH : Ok C (still G6 H6 fw) (upd H6 D (.lst (acc ++ [w]))) ([D] ++ f6) := by
                              refine ⟨fun b u h => ?_, okG.gt, okG.nd, okG.ds, tabs_upd okG.tb hD6 (fun _ z => by cases z) (fun _ _ z => by cases z)⟩
                              rw [upd_ne (fun z => by subst z; rw [gD] at h; cases h)]
                              exact okG.sub b u h
                            have mG : Mv (still G6 H6 fw) H6 ([D] ++ f6) (still G6 H6 fw) (upd H6 D (.lst (acc ++ [w]))) ([D] ++ f6) := by
                              refine ⟨fun _ _ h => h, fun _ _ h => .inl h, fun b u h n t => ?_, fun b hb => .inl hb, fun b hb => ?_⟩
                              · rw [upd_ne (fun z : b = D => n (by rw [z]; simp))]; exact h
                              · by_cases z : b = D
                                · subst z; rw [upd_same] at hb; cases hb
                                · rw [upd_ne z] at hb; exact hb
                            have re8 : RE C (still G6 H6 fw) (upd H6 D (.lst (acc ++ [w]))) s4 e6 f6 := re7.mv (fun _ _ h => h) fun a ha u hu _ => by
                              rw [upd_ne (fun z => (List.nodup_append.mp okG.nd).2.2 D (by simp) a ha z.symm)]
                              exact hu
                            obtain ⟨f9, re9, n9, mem9⟩ := re8.wipe (List.nodup_append.mp okG.nd).2.1 vs
                            rw [ws] at re9
                            have mem10 : ∀ a ∈ D :: f9, a ∈ [D] ++ f6 := fun a ha => by
                              rcases List.mem_cons.mp ha with z | z
                              · rw [z]; simp
                              · exact List.mem_append_right _ (mem9 a z)
                            have nd10 : (D :: f9).Nodup := List.nodup_cons.mpr ⟨fun z => (List.nodup_append.mp okG.nd).2.2 D (by simp) D (mem9 D z) rfl, n9⟩
                            refine ⟨_, f9, _, acc ++ [w], aF ++ [o.fz], mE.gs, (Mv.seq (fv := []) mE mG).weak mem10, okH.sub_of nd10 mem10, re9, upd_same, ra6.append (.cons rf7 .nil), by rw [List.length_append, List.length_singleton]; omega, ts, q6, by rw [List.append_assoc]; exact eys⟩
            · have e0 : i = xs.length := by omega
              subst e0
              rw [List.drop_length] at hz
              have hz : some (([] : List F), e2) = some (zs, e') := hz
              cases hz
              rw [List.append_nil] at eys
              subst eys
              refine .inl ⟨st, ?_⟩
              obtain ⟨f3, re3, n3, mem3⟩ := RE.back mv.gs re1 re2' (List.nodup_cons.mp ok2.nd).2 (L2.wipe_length σ vs) (fun i hi => wipe_at hi)
              have mem4 : ∀ a ∈ [D] ++ f3, a ∈ D :: f := fun a ha => by
                rcases List.mem_append.mp ha with z | z
                · rw [List.mem_singleton.mp z]; simp
                · exact List.mem_cons_of_mem _ (mem3 a z)
              have nd4 : ([D] ++ f3).Nodup := List.nodup_cons.mpr ⟨fun z => (List.nodup_cons.mp ok2.nd).1 (mem3 D z), n3⟩
              exact h G2 H2 (.ref D) [D] f3 (Mv.seq (fv := []) m1 (mv.weak mem4)) (ok2.sub_of nd4 mem4) re3 (RO.mkL hacc ra)
      · rw [if_neg hlen] at h; exact (show False from h).elim
theorem yes_run {Q : Bool → Hp → Prop} (h : tt C W mYes σ H Q) : tYes σ H Q := by
  obtain ⟨G, fp, env, ok, re, h⟩ := h
  exact h G H fp .refl ok re
theorem gN_mono {i : Nat} {m : M O} {Q : L2.St → Hp → Prop} (hp : P i = false) (h : te C W m σ H fun v H1 => tg C P (gN i) v σ H1 Q) : te C W m σ H fun v H1 => gName i v σ H1 Q := te_mono h fun v H1 q => gN_run hp q
end
theorem _root_.L2.PTs.imp {X : Cx} {ifs : List Expr} {t u : TT} (h : PTs X ifs t) (k : ∀ σ H Q, u σ H Q → t σ H Q) : PTs X ifs u := ⟨fun pins s σ H Q I q => h.run pins s σ H Q I (k σ H Q q)⟩
theorem takesF {X : Cx} {s : Shared} {H : Hp} {sc : Scope} {cenv : PySem.Env} {fp : List Addr} : Takes (X.blk s H sc cenv fp) WF := fun u s' ⟨_, _, _, _, _, _, _, _, _, _, _, _, _, _, _, _, w⟩ => w.elim
section
variable {X : Cx} {C : Ct} {W : WX} {P Pc : Nat → Bool} {elt tgt iter c : Expr} {ifs : List Expr} {scope : Scope} {own : List (Str × Nat)} {pos : Pos} {im : M (List O)} {g : Tg} {cm : M Bool} {m : M O}
theorem ptm_nil : PTs X [] (tt C W mYes) := pts_nil.imp fun _ _ _ h => yes_run h
theorem ptm_one (h : PT X c (tt C W cm)) : PTs X [c] (tt C W cm) := pts_one h
theorem pm_lc (own : List (Str × Nat)) {vs : List Nat} (hv : own.map (·.2) = vs) (hc : X.calm = true) (hN : X.N.Nodup) (hi : PI X tgt iter (ti C W im)) (ok : BlkOk X.N X.env.scope scope own) (hP : ∀ i, i ∉ vs → Pc i = true)
    (hg : ∀ (s : Shared) (H : Hp) (D : Addr) (cl : List (Str × Addr)) (fp : List Addr), PG (X.blk s H scope (compEnvC scope cl D X.env) fp) tgt (tg C Pc g)) (ht : ∀ (s : Shared) (H : Hp) (D : Addr) (cl : List (Str × Addr)) (fp : List Addr), PTs (X.blk s H scope (compEnvC scope cl D X.env) fp) ifs (tt C WF cm))
    (he : ∀ (s : Shared) (H : Hp) (D : Addr) (cl : List (Str × Addr)) (fp : List Addr), PE (X.blk s H scope (compEnvC scope cl D X.env) fp) elt (te C WF m)) (hs : ∀ x, foldedSetIterable iter X.env x = pure x := by intro _; rfl) :
    PE X (.ListComp elt [⟨tgt, iter, ifs, 0⟩] scope pos) (te C W (mLc im vs g cm m)) := by
  subst hv
  exact (pe_lc hc hN hi ok hg ht he hs).imp fun _ _ _ h => lc_run hP h
theorem psm_setLc (own : List (Str × Nat)) {vs : List Nat} (hv : own.map (·.2) = vs) {i : Nat} {y : Str} {py spos : Pos} (hp : P i = false) (hc : X.calm = true) (hN : X.N.Nodup) (hy : X.N[i]? = some y) (hyl : X.env.scope.names.lookup y = some .local)
    (hsw : swapsWith (.ListComp elt [⟨tgt, iter, ifs, 0⟩] scope pos) (some (.Name y py)) spos.line X.env = pure true) (hi : PI X tgt iter (ti C W im)) (ok : BlkOk X.N X.env.scope scope own) (hP : ∀ i, i ∉ vs → Pc i = true)
    (hg : ∀ (s : Shared) (H : Hp) (D : Addr) (cl : List (Str × Addr)) (fp : List Addr), PG (X.blk s H scope (compEnvC scope cl D X.env) fp) tgt (tg C Pc g)) (ht : ∀ (s : Shared) (H : Hp) (D : Addr) (cl : List (Str × Addr)) (fp : List Addr), PTs (X.blk s H scope (compEnvC scope cl D X.env) fp) ifs (tt C WF cm))
    (he : ∀ (s : Shared) (H : Hp) (D : Addr) (cl : List (Str × Addr)) (fp : List Addr), PE (X.blk s H scope (compEnvC scope cl D X.env) fp) elt (te C WF m)) (hs : ∀ x, foldedSetIterable iter X.env x = pure x := by intro _; rfl) :
    PS X (.Assign [.Name y py] (.ListComp elt [⟨tgt, iter, ifs, 0⟩] scope pos) spos) (ts C W P (sAsg (mLc im vs g cm m) (gN i))) := by
  subst hv
  exact (ps_setLc hc hN hy hyl hsw hi ok hg ht he hs).imp fun D σ H h => lc_run hP (gN_mono hp (asg_run h))
end
end Mi
set_option Elab.async false
set_option linter.all false
set_option maxRecDepth 100000
set_option maxHeartbeats 2000000
namespace Mi
open PySem PySem.Spec PyProof.Rows L2
def oNil : M (List O) := fun env => some (.ok [] env)
def oCons (m : M O) (d : M (List O)) : M (List O) := fun env => match m env with
  | some (.ok o e) => rMap (o :: ·) (d e)
  | some (.ex x e) => some (.ex x e)
  | none => none
def Ko (C : Ct) (σ : L2.St) (G H : Hp) (fp : List Addr) (Q : List V → Hp → Prop) (os : List O) (e : Env) : Prop :=
  ∀ (G' H' : Hp) (vs : List V) (fv fq : List Addr), Mv G H fp G' H' (fv ++ fq) → Ok C G' H' (fv ++ fq) → RE C G' H' σ e fq → ROs C G' H' vs os fv → Q vs H'
def tow (C : Ct) (W : WX) (m : M (List O)) : TA := fun σ H Q => ∃ (G : Hp) (fp : List Addr) (env : Env), Ok C G H fp ∧ RE C G H σ env fp ∧ Kr C W σ G H fp (Ko C σ G H fp Q) (m env)
def agO : List Tg → List O → Env → Option Env
  | [], [], e => some e
  | g :: gs, o :: os, e => (match g o e with
    | some e' => agO gs os e'
    | none => none)
  | _, _, _ => none
def tgo (C : Ct) (P : Nat → Bool) (gs : List Tg) : TGs := fun vs σ H Q => ∃ (G : Hp) (f fp : List Addr) (env : Env) (os : List O), Ok C G H (f ++ fp) ∧ RE C G H σ env fp ∧ ROs C G H vs os f ∧
  match agO gs os env with
  | none => False
  | some e => Kn C P σ G H (f ++ fp) e Q
def sPar (gs : List Tg) (d : M (List O)) : MS := fun env => match d env with
  | some (.ok os e) => if os.length ≤ sizeLine then (match agO gs os e with
    | some e' => some (.nx e')
    | none => none) else none
  | some (.ex x e) => some (.ex x e)
  | none => none
section
variable {C : Ct} {W : WX} {P : Nat → Bool} {σ σ' : L2.St} {G H G' H' : Hp} {fp fq f fv : List Addr} {env : Env}
theorem onil_run {Q : List V → Hp → Prop} (h : tow C W oNil σ H Q) : tNil σ H Q := by
  obtain ⟨G, fp, env, ok, re, h⟩ := h
  exact h G H [] [] fp .refl ok re .nil
theorem ocons_run {m : M O} {d : M (List O)} {Q : List V → Hp → Prop} (h : tow C W (oCons m d) σ H Q) : tCons (te C W m) (tow C W d) σ H Q := by
  obtain ⟨G, fp, env, ok, re, h⟩ := h
  refine ⟨G, fp, env, ok, re, ?_⟩
  unfold oCons at h
  cases q : m env with
  | none => simp only [q] at h; exact (show False from h).elim
  | some z =>
    cases z with
    | ex x e => simp only [q] at h; exact h
    | ok o e =>
      simp only [q] at h
      intro G1 H1 v fv fq m1 ok1 re1 ro
      have m1' : Mv G H fp G1 H1 fq := m1.weak fun a ha => List.mem_append_right _ ha
      refine ⟨G1, fq, e, ok1.sub_of (List.nodup_append.mp ok1.nd).2.1 fun a ha => List.mem_append_right _ ha, re1, ?_⟩
      cases q2 : d e with
      | none => rw [q2] at h; exact h
      | some z =>
        rw [q2] at h
        cases z with
        | ex x e2 => exact Kx.seq h m1'
        | ok os e2 =>
          intro G2 H2 vs fw fr m2 ok2 re2 ros
          have h : Ko C σ G H fp Q (o :: os) e2 := h
          have m3 := Mv.seq (fv := fv) m1 m2
          have ok3 := ok1.seq m2 ok2 ro.own
          rw [← List.append_assoc] at m3 ok3
          exact h G2 H2 (v :: vs) (fv ++ fw) fr m3 ok3 re2 (.cons (ro.aside ok1 m2) ros)
theorem Kn.of {e : Env} {Q : L2.St → Hp → Prop} (h : Kn C P σ G H (f ++ fp) e Q) (ok : Ok C G H (f ++ fp)) : Kn C P σ G H fp e Q := fun σ' G' H' fq m ok' re' p =>
  h σ' G' H' fq ⟨m.gs, fun a u h => (m.fz a u h).imp_right fun z => z.imp_left fun y => List.mem_append_right _ y, fun a u h n t => m.fr a u h (fun z => n (List.mem_append_right _ z)) t, fun a h => (m.nw a h).imp_left fun y => List.mem_append_right _ y, m.th⟩ ok' re' p
theorem tgo_nil {vs : List V} {Q : L2.St → Hp → Prop} (h : tgo C P [] vs σ H Q) : gNil vs σ H Q := by
  obtain ⟨G, f, fp, env, os, ok, re, r, h⟩ := h
  cases r with
  | nil => exact ⟨rfl, h σ G H fp .refl ok re .refl⟩
  | cons _ _ => exact h.elim
theorem tgo_cons {g : Tg} {gs : List Tg} {vs : List V} {Q : L2.St → Hp → Prop} (h : tgo C P (g :: gs) vs σ H Q) : gCons (tg C P g) (tgo C P gs) vs σ H Q := by
  obtain ⟨G, f, fp, env, os, ok, re, r, h⟩ := h
  cases r with
  | nil => exact h.elim
  | cons a b =>
    rename_i v vs o os f1 f2
    have h : match (match g o env with | some e' => agO gs os e' | none => none) with | none => False | some e => Kn C P σ G H ((f1 ++ f2) ++ fp) e Q := h
    have pm : ((f1 ++ f2) ++ fp).Perm (f2 ++ (f1 ++ fp)) := List.perm_iff_count.mpr fun a => by simp only [List.count_append]; omega
    have okA : Ok C G H (f2 ++ (f1 ++ fp)) := ok.sub_of (pm.nodup_iff.mp ok.nd) fun a ha => pm.mem_iff.mpr ha
    have okB : Ok C G H (f1 ++ fp) := okA.sub_of (List.nodup_append.mp okA.nd).2.1 fun a ha => List.mem_append_right _ ha
    refine ⟨v, vs, rfl, G, f1, fp, env, o, okB, re, a, ?_⟩
    cases q : g o env with
    | none => rw [q] at h; exact h.elim
    | some e =>
      rw [q] at h
      dsimp only at h
      intro σ' G' H' fq m ok' re' p
      have m2 : Mv G H ((f1 ++ f2) ++ fp) G' H' (f2 ++ fq) := by
        have := Mv.seq (fv := f2) (m := (Mv.refl (G := G) (H := H) (fp := f2 ++ (f1 ++ fp)))) m
        exact ⟨this.gs, fun a u h => (this.fz a u h).imp_right fun z => z.imp_left fun y => pm.mem_iff.mpr y, fun a u h n t => this.fr a u h (fun z => n (pm.mem_iff.mpr z)) t, fun a h => (this.nw a h).imp_left fun y => pm.mem_iff.mpr y, this.th⟩
      refine ⟨G', f2, fq, e, os, okA.seq m ok' b.own, re', b.aside okA m, ?_⟩
      cases q2 : agO gs os e with
      | none => rw [q2] at h; exact h
      | some e2 => rw [q2] at h; exact Kn.seq h m2 p
theorem par_run {K : PySem.W.Frag} {gs : List Tg} {d : M (List O)} {D : Ends} {n : Nat} (hK : C.K = K) (hn : gs.length = n) (h : ts C W P (sPar gs d) D σ H) : tAsg (tTup (tow C W d)) (gTup K n (tgo C P gs)) D σ H := by
  obtain ⟨G, fp, env, ok, re, h⟩ := h
  refine ⟨G, fp, env, ok, re, ?_⟩
  unfold sPar at h
  cases q : d env with
  | none => simp only [q] at h; exact (show False from h).elim
  | some z =>
    cases z with
    | ex x e => simp only [q] at h; exact Kxs.kx h
    | ok os e =>
      simp only [q] at h
      intro G1 H1 vs fv fq m1 ok1 re1 ros
      by_cases hl : os.length ≤ sizeLine
      · rw [if_pos hl] at h
        have lro : ∀ {vs : List V} {os : List O} {f : List Addr}, ROs C G1 H1 vs os f → vs.length = os.length := fun h => h.length
        refine ⟨by rw [lro ros]; exact hl, fun p hp => ?_⟩
        cases q2 : agO gs os e with
        | none => simp only [q2] at h; exact (show False from h).elim
        | some e2 =>
          simp only [q2] at h
          have ad : Ad G1 H1 G1 (upd H1 p (.tup vs)) [p] := Ad.own ok1 hp
          have ok2 : Ok C G1 (upd H1 p (.tup vs)) ([p] ++ (fv ++ fq)) := ad.ok ok1 fun a ha => by
            rcases List.mem_append.mp ha with z | z
            · obtain ⟨u, h, _⟩ := ros.own a z; rw [h]; simp
            · exact re1.nn a z
          have ok3 : Ok C G1 (upd H1 p (.tup vs)) (fv ++ fq) := ok2.sub_of (List.nodup_append.mp ok2.nd).2.1 fun a ha => List.mem_append_right _ ha
          have m2 : Mv G1 H1 (fv ++ fq) G1 (upd H1 p (.tup vs)) (fv ++ fq) := ad.mv.weak fun a ha => List.mem_append_right _ ha
          have ros2 : ROs C G1 (upd H1 p (.tup vs)) vs os fv := ros.mv (fun _ _ h => h) fun a ha u hu _ => ad.hs a u hu
          have len : ∀ {gs : List Tg} {xs : List O} {e e' : Env}, agO gs xs e = some e' → xs.length = gs.length := by
            intro gs
            induction gs with
            | nil => intro xs e e' h; cases xs with
              | nil => rfl
              | cons _ _ => cases h
            | cons g gs ih => intro xs e e' h; cases xs with
              | nil => cases h
              | cons x xs =>
                have h : (match g x e with | some e' => agO gs xs e' | none => none) = some e' := h
                split at h
                · simp [ih h]
                · cases h
          refine ⟨p, vs, rfl, .of upd_same, by rw [lro ros, len q2, hn], G1, fv, fq, e, os, ok3, re1.ad ad, ros2, ?_⟩
          rw [q2]
          exact Kn.seq (Kn.seq h m1 .refl) m2 .refl
      · rw [if_neg hl] at h; exact (show False from h).elim
theorem par2_run {i j : Nat} {d : M (List O)} {D : Ends} (hi : P i = false) (hj : P j = false) (hij : i ≠ j) (h : ts C W P (sPar [gN i, gN j] d) D σ H) : tPar i j (tow C W d) D σ H := by
  obtain ⟨G, fp, env, ok, re, h⟩ := h
  refine ⟨G, fp, env, ok, re, ?_⟩
  unfold sPar at h
  cases q : d env with
  | none => simp only [q] at h; exact (show False from h).elim
  | some z =>
    cases z with
    | ex x e => simp only [q] at h; exact Kxs.kx h
    | ok os e =>
      simp only [q] at h
      intro G1 H1 vs fv fq m1 ok1 re1 ros
      by_cases hl : os.length ≤ sizeLine
      · rw [if_pos hl] at h
        cases q2 : agO [gN i, gN j] os e with
        | none => simp only [q2] at h; exact (show False from h).elim
        | some e2 =>
          simp only [q2] at h
          have hz : tgo C P [gN i, gN j] vs σ H1 D.nx := ⟨G1, fv, fq, e, os, ok1, re1, ros, by rw [q2]; exact Kn.seq h m1 .refl⟩
          obtain ⟨v, r, rfl, z1⟩ := tgo_cons hz
          obtain ⟨w, r2, rfl, z2⟩ := tgo_cons (gN_run hi z1)
          obtain ⟨rfl, z3⟩ := tgo_nil (gN_run hj z2)
          exact ⟨v, w, rfl, z3⟩
      · rw [if_neg hl] at h; exact (show False from h).elim
theorem par3_run {i j l : Nat} {d : M (List O)} {D : Ends} (hi : P i = false) (hj : P j = false) (hl' : P l = false) (h : ts C W P (sPar [gN i, gN j, gN l] d) D σ H) : tPar3 i j l (tow C W d) D σ H := by
  obtain ⟨G, fp, env, ok, re, h⟩ := h
  refine ⟨G, fp, env, ok, re, ?_⟩
  unfold sPar at h
  cases q : d env with
  | none => simp only [q] at h; exact (show False from h).elim
  | some z =>
    cases z with
    | ex x e => simp only [q] at h; exact Kxs.kx h
    | ok os e =>
      simp only [q] at h
      intro G1 H1 vs fv fq m1 ok1 re1 ros
      by_cases hl : os.length ≤ sizeLine
      · rw [if_pos hl] at h
        cases q2 : agO [gN i, gN j, gN l] os e with
        | none => simp only [q2] at h; exact (show False from h).elim
        | some e2 =>
          simp only [q2] at h
          have hz : tgo C P [gN i, gN j, gN l] vs σ H1 D.nx := ⟨G1, fv, fq, e, os, ok1, re1, ros, by rw [q2]; exact Kn.seq h m1 .refl⟩
          obtain ⟨v, r, rfl, z1⟩ := tgo_cons hz
          obtain ⟨w, r2, rfl, z2⟩ := tgo_cons (gN_run hi z1)
          obtain ⟨x, r3, rfl, z3⟩ := tgo_cons (gN_run hj z2)
          obtain ⟨rfl, z4⟩ := tgo_nil (gN_run hl' z3)
          exact ⟨v, w, x, rfl, z4⟩
      · rw [if_neg hl] at h; exact (show False from h).elim
end
section
variable {X : Cx} {C : Ct} {W : WX} {P : Nat → Bool} {e a b c : Expr} {es ss : List Expr} {m : M O} {d : M (List O)} {g : Tg} {gs : List Tg} {pos : Pos}
theorem po_nil : PA X [] (tow C W oNil) := pa_nil.imp fun _ _ _ h => onil_run h
theorem po_cons (he : PE X e (te C W m)) (hr : PA X es (tow C W d)) (hs : starEach (e :: es) X.env = (false, eval e X.env) :: starEach es X.env := by rfl) : PA X (e :: es) (tow C W (oCons m d)) := (pa_cons he hr hs).imp fun _ _ _ h => ocons_run h
theorem pgo_nil : PGs X [] (tgo C P []) := ⟨fun pins s σ H vs us Q I r h => pgs_nil.run pins s σ H vs us Q I r (tgo_nil h)⟩
theorem pgo_cons (h1 : PG X e (tg C P g)) (h2 : PGs X es (tgo C P gs)) (hs : (assignEach (e :: es) X.env).map (·.2) = assign e X.env :: (assignEach es X.env).map (·.2) := by rfl) : PGs X (e :: es) (tgo C P (g :: gs)) :=
  ⟨fun pins s σ H vs us Q I r h => (pgs_cons h1 h2 hs).run pins s σ H vs us Q I r (tgo_cons h)⟩
theorem psm_par {k1 k2 n : Nat} {p1 p2 : Pos} (hc : X.calm = true) (hK : C.K = X.K) (he : PA X es (tow C W d)) (hg : PGs X ss (tgo C P gs)) (hl : gs.length = n := by rfl)
    (hn : (assignEach ss X.env).length = n := by rfl) (hst : (assignEach ss X.env).findIdx? (·.1) = none := by rfl)
    (hs : swapsWithSole [.Tuple ss k1 p1] (.Tuple es k2 p2) pos.line X.env = pure false := by rfl) (hw : swappedStores [.Tuple ss k1 p1] (.Tuple es k2 p2) X.env = pure none := by rfl)
    (h1 : (assignEach [.Tuple ss k1 p1] X.env).map (·.2) = [assign (.Tuple ss k1 p1) X.env] := by rfl) : PS X (.Assign [.Tuple ss k1 p1] (.Tuple es k2 p2) pos) (ts C W P (sPar gs d)) :=
  (ps_asg (pe_tup he) (pg_tup hc hg hn hst) hs hw h1).imp fun _ _ _ h => par_run hK hl h
theorem psm_par2 {i j : Nat} {x y : Str} {px py pt : Pos} {kt k2 pt2} (hp : P i = false) (hq : P j = false) (hc : X.calm = true) (hN : X.N.Nodup) (hi : X.N[i]? = some x) (hj : X.N[j]? = some y) (hij : i ≠ j)
    (hx : X.env.scope.names.lookup x = some .local) (hy : X.env.scope.names.lookup y = some .local) (ha : PA X [a, b] (tow C W d))
    (hw : swappedStores [.Tuple [.Name x px, .Name y py] kt pt] (.Tuple [a, b] k2 pt2) X.env = pure (some [x, y]))
    (hs : swapsWithSole [.Tuple [.Name x px, .Name y py] kt pt] (.Tuple [a, b] k2 pt2) pos.line X.env = pure false := by rfl) :
    PS X (.Assign [.Tuple [.Name x px, .Name y py] kt pt] (.Tuple [a, b] k2 pt2) pos) (ts C W P (sPar [gN i, gN j] d)) := (ps_par hc hN hi hj hij hx hy ha hw hs).imp fun _ _ _ h => par2_run hp hq hij h
theorem psm_par3 {i j l : Nat} {x y z : Str} {px py pz pt : Pos} {kt k2 pt2} (hp : P i = false) (hq : P j = false) (hr : P l = false) (hc : X.calm = true) (hN : X.N.Nodup) (hi : X.N[i]? = some x) (hj : X.N[j]? = some y) (hl : X.N[l]? = some z) (hij : i ≠ j) (hil : i ≠ l) (hjl : j ≠ l)
    (hx : X.env.scope.names.lookup x = some .local) (hy : X.env.scope.names.lookup y = some .local) (hz : X.env.scope.names.lookup z = some .local) (ha : PA X [a, b, c] (tow C W d))
    (hw : swappedStores [.Tuple [.Name x px, .Name y py, .Name z pz] kt pt] (.Tuple [a, b, c] k2 pt2) X.env = pure (some [x, y, z]))
    (hs : swapsWithSole [.Tuple [.Name x px, .Name y py, .Name z pz] kt pt] (.Tuple [a, b, c] k2 pt2) pos.line X.env = pure false := by rfl) :
    PS X (.Assign [.Tuple [.Name x px, .Name y py, .Name z pz] kt pt] (.Tuple [a, b, c] k2 pt2) pos) (ts C W P (sPar [gN i, gN j, gN l] d)) := (ps_par3 hc hN hi hj hl hij hil hjl hx hy hz ha hw hs).imp fun _ _ _ h => par3_run hp hq hr h
end
end Mi
set_option Elab.async false
set_option linter.all false
set_option maxRecDepth 100000
set_option maxHeartbeats 2000000
namespace Mi
open PySem PySem.Spec PyProof.Rows L2
open PySem.W (alike dataLt)
def mChn (r r' : Int → Int → Bool) (ma mb mc : M O) : M O := fun env => match ma env with
  | some (.ok oa e1) => (match oInt oa with
    | some i => (match mb e1 with
      | some (.ok ob e2) => (match oInt ob with
        | some j => if r i j = true then (match mc e2 with
          | some (.ok oc e3) => (match oInt oc with
            | some k => some (.ok (.p (.bool (r' j k))) e3)
            | none => none)
          | some (.ex x e) => some (.ex x e)
          | none => none) else some (.ok (.p (.bool false)) e2)
        | none => none)
      | some (.ex x e) => some (.ex x e)
      | none => none)
    | none => none)
  | some (.ex x e) => some (.ex x e)
  | none => none
section
variable {C : Ct} {W : WX} {σ : L2.St} {G H G' H' : Hp} {fp fq fv : List Addr} {env : Env}
theorem Mv.drop (m : Mv G H fp G' H' (fv ++ fq)) : Mv G H fp G' H' fq := m.weak fun a ha => List.mem_append_right _ ha
theorem Ok.drop (ok : Ok C G H (fv ++ fq)) : Ok C G H fq := ok.sub_of (List.nodup_append.mp ok.nd).2.1 fun a ha => List.mem_append_right _ ha
theorem chn_run {r r' : Int → Int → Bool} {ma mb mc : M O} {Q : VK} (h : te C W (mChn r r' ma mb mc) σ H Q) : tChain (rI0 fun i j => .bl (r i j)) (rI0 fun i j => .bl (r' i j)) (te C W ma) (te C W mb) (te C W mc) σ H Q := by
  obtain ⟨G, fp, env, ok, re, h⟩ := h
  refine ⟨G, fp, env, ok, re, ?_⟩
  unfold mChn at h
  cases q : ma env with
  | none => simp only [q] at h; exact (show False from h).elim
  | some z =>
    cases z with
    | ex x e => simp only [q] at h; exact h
    | ok oa e1 =>
      simp only [q] at h
      intro G1 H1 v fv f1 m1 ok1 re1 ro
      cases q1 : oInt oa with
      | none => simp only [q1] at h; exact (show False from h).elim
      | some i =>
        simp only [q1] at h
        have hv := ro.oInt q1
        refine ⟨G1, f1, e1, ok1.drop, re1, ?_⟩
        cases q2 : mb e1 with
        | none => simp only [q2] at h; exact (show False from h).elim
        | some z =>
          cases z with
          | ex x e => simp only [q2] at h; exact Kx.seq h m1.drop
          | ok ob e2 =>
            simp only [q2] at h
            intro G2 H2 u fu f2 m2 ok2 re2 rb
            cases q3 : oInt ob with
            | none => simp only [q3] at h; exact (show False from h).elim
            | some j =>
              simp only [q3] at h
              have hu := rb.oInt q3
              refine ⟨i, j, hv, hu, r i j, rfl, ?_⟩
              have m12 := Mv.seq (fv := []) m1.drop m2.drop
              cases hr : r i j with
              | false =>
                rw [hr, if_neg Bool.false_ne_true] at h
                rw [if_neg Bool.false_ne_true]
                exact h G2 H2 (.bl false) [] f2 m12 ok2.drop re2 (.f (.d (.bl _)))
              | true =>
                rw [hr, if_pos rfl] at h
                rw [if_pos rfl]
                refine ⟨G2, f2, e2, ok2.drop, re2, ?_⟩
                cases q4 : mc e2 with
                | none => simp only [q4] at h; exact (show False from h).elim
                | some z =>
                  cases z with
                  | ex x e => simp only [q4] at h; exact Kx.seq h m12
                  | ok oc e3 =>
                    simp only [q4] at h
                    intro G3 H3 w fw f3 m3 ok3 re3 rc
                    cases q5 : oInt oc with
                    | none => simp only [q5] at h; exact (show False from h).elim
                    | some k =>
                      simp only [q5] at h
                      exact ⟨j, k, hu, rc.oInt q5, h G3 H3 (.bl _) [] f3 (Mv.seq (fv := []) m12 m3.drop) ok3.drop re3 (.f (.d (.bl _)))⟩
def sAug (i : Nat) (r : Int → Int → Int) (m : M O) : MS := fun env => match env[i]? with
  | some (some (.f (.d (.int a)))) => (match m env with
    | some (.ok o e) => (match oInt o with
      | some b => some (.nx (e.set i (some (.p (.int (r a b))))))
      | none => none)
    | some (.ex x e) => some (.ex x e)
    | none => none)
  | _ => none
theorem aug_run {P : Nat → Bool} {i : Nat} {r : Int → Int → Int} {m : M O} {D : Ends} (hp : P i = false) (h : ts C W P (sAug i r m) D σ H) : tAug i (te C W m) (rI0 fun a b => .int (r a b)) D σ H := by
  obtain ⟨G, fp, env, ok, re, h⟩ := h
  unfold sAug at h
  split at h
  · rename_i a e0
    obtain ⟨v, f1, f, f2, k1, _, k3, _⟩ := re.get e0
    have hv := k3.int
    subst hv
    refine ⟨.int a, k1, G, fp, env, ok, re, ?_⟩
    cases q : m env with
    | none => simp only [q] at h; exact (show False from h).elim
    | some z =>
      cases z with
      | ex x e => simp only [q] at h; exact Kxs.kx h
      | ok o e =>
        simp only [q] at h
        intro G1 H1 u fv fq m1 ok1 re1 ro
        cases q1 : oInt o with
        | none => simp only [q1] at h; exact (show False from h).elim
        | some b =>
          simp only [q1] at h
          have hu := ro.oInt q1
          have hi : i < e.length := by
            rw [← re1.length]
            exact (List.getElem?_eq_some_iff.mp k1).1
          obtain ⟨fr, m2, ok2, re2⟩ := slot_set (f := []) (o := .p (.int (r a b))) (v := .int (r a b)) ok1.drop re1 hi (.f (.d (.int _)))
          refine ⟨a, b, rfl, hu, h _ G1 H1 fr (Mv.seq (fv := []) m1.drop m2) ok2 re2 ⟨List.length_set, fun j hj => ?_⟩⟩
          by_cases z : i = j
          · subst z; rw [hp] at hj; cases hj
          · rw [List.getElem?_set_ne z]
  · exact (show False from h).elim
def sRaise (c : Nat) : MS := fun env => some (.ex ⟨c, none⟩ env)
theorem raise_run {P : Nat → Bool} {c : Nat} {D : Ends} {B : Addr} (hB : C.xa c = B) (h : ts C W P (sRaise c) D σ H) : W (.ref B) none σ H := by
  obtain ⟨G, fp, env, ok, re, h⟩ := h
  exact h σ G H fp (.ref B) none .refl ok re ⟨by rw [hB], rfl⟩ .refl
end
section
variable {X : Cx} {C : Ct} {W : WX} {P : Nat → Bool} {a b c e : Expr} {ma mb mc m : M O} {pos p p2 : Pos}
theorem pm_chain {op op' : CmpOp} {r r' : Int → Int → Bool} (ho : OpR X (compareOp op) (rI0 fun i j => .bl (r i j))) (ho' : OpR X (compareOp op') (rI0 fun i j => .bl (r' i j))) (ha : PE X a (te C W ma)) (hb : PE X b (te C W mb)) (hc : PE X c (te C W mc))
    (hm : lastMarks [op, op'] [b, c] = false := by with_unfolding_all rfl) : PE X (.Compare a [op, op'] [b, c] pos) (te C W (mChn r r' ma mb mc)) := (pe_chain ho ho' ha hb hc hm).imp fun _ _ _ h => chn_run h
theorem ptm_chain {op op' : CmpOp} {r r' : Int → Int → Bool} (ho : OpR X (compareOp op) (rI0 fun i j => .bl (r i j))) (ho' : OpR X (compareOp op') (rI0 fun i j => .bl (r' i j))) (ha : PE X a (te C W ma)) (hb : PE X b (te C W mb)) (hc : PE X c (te C W mc))
    (hm : lastMarks [op, op'] [b, c] = false := by with_unfolding_all rfl) : PT X (.Compare a [op, op'] [b, c] pos) (tt C W (mBl (mChn r r' ma mb mc))) := (pt_chain ho ho' ha hb hc hm).imp fun _ _ _ h => chn_run (bl_run h)
theorem psm_aug {i : Nat} {x : Str} {op : Operator} {r : Int → Int → Int} {pos' : Pos} (hp : P i = false) (hN : X.N.Nodup) (hi : X.N[i]? = some x) (hx : Loc X.env.scope x) (he : PE X e (te C W m)) (ho : PIp X op (rI0 fun a b => .int (r a b)))
    (hf : X.fn x = true ∨ X.env.scope.names.lookup x = some .local := by first | exact .inl rfl | exact .inr rfl | assumption) : PS X (.AugAssign (.Name x pos') op e pos) (ts C W P (sAug i r m)) := (ps_aug hN hi hx he ho hf).imp fun _ _ _ h => aug_run hp h
theorem psm_raise {x z : Str} {B : Addr} {j : Nat} {n : Nat} {q1 : Pos} (hB : C.xa n = B) (hc : X.calm = true) (tk : Takes X W) (q : PySem.W.excIn X.K B He.veBase "ValueError.__new__" = true) (gC : X.mg x = some (.ref B)) (kC : PySem.W.keepIn X.K (.ref B) = true)
    (r1 : PySem.W.subIn X.K (.ref B) (.type "BaseException") = some true) (r2 : PySem.W.typeIn X.K (.ref B) = some (.type "type")) (hg : Gl X x) (hdb : (x == ("__debug__" : Str)) = false := by decide) :
    PS X (.Raise (some (.Call (.Name x p) [.Constant (.str z) j p2] [] q1)) none pos) (ts C W P (sRaise n)) :=
  (ps_raise hc tk (pmk_own PySem.F.excBase_ValueError q gC kC (raises_own r1 r2) hg hdb)).imp fun _ _ _ h => raise_run hB h
theorem pm_gint {x : Str} {i : Int} (hg : Gl X x) (h : ∃ t, X.mg x = some (.int i t)) (hd : (x == ("__debug__" : Str)) = false := by decide) : PE X (.Name x pos) (te C W (mC (.int i))) := by
  obtain ⟨t, h⟩ := h
  exact (pe_glob (v := .int i) hg h ⟨t, rfl⟩ hd).imp fun _ _ _ h => te_val h fun _ => .int i
theorem pm_gstr {x z : Str} (hg : Gl X x) (h : ∃ t, X.mg x = some (.str z t)) (hd : (x == ("__debug__" : Str)) = false := by decide) : PE X (.Name x pos) (te C W (mC (.str z))) := by
  obtain ⟨t, h⟩ := h
  exact (pe_glob (v := .str z) hg h ⟨t, rfl⟩ hd).imp fun _ _ _ h => te_val h fun _ => .str z
end
def gSorted : List O → Option O
  | [o] => (match o.seq with
    | some (false, xs) => (match pys xs with
      | some ps => if ps.length ≤ sizeLine ∧ PyData.depthAll ps ≤ 60 ∧ (ps.all fun x => ps.all fun y => alike x y) = true ∧
          ((ps.all fun d => match d with | .tuple (_ :: _) => true | _ => false) = true ∨ (ps.all fun d => match d with | .none => false | .tuple _ => false | _ => true) = true) then
          some (.w (ps.mergeSort (PySem.W.dataLe false id))) else none
      | none => none)
    | _ => none)
  | _ => none
section
variable {X : Cx} {C : Ct}
theorem eachIs_of {s : Shared} {pins : List (Addr × Obj)} {σ : L2.St} {H : Hp} (I : Inv X pins σ H s) : ∀ {ps : List PyData} {vs : List V} {us : List Value} {G : Hp}, (∀ a u, G a = some u → H a = some u) → RepL X.K G vs ps → Vals vs us →
    ∃ bs : List (V × PyData), bs.map (·.1) = vs ∧ bs.map (·.2) = ps ∧ PySem.W.EachIs (fun u b => RelV b.1 u ∧ Rep X.K G b.1 b.2) us bs ∧ PySem.W.EachIs (fun u (b : V × PyData) => ∃ as, Reads s.heap u b.2 as) us bs
  | _, _, _, _, _, .nil, .nil => ⟨[], rfl, rfl, .nil, .nil⟩
  | _, _, _, _, hs, .cons a b, .cons r rs => by
    obtain ⟨bs, e1, e2, e3, e4⟩ := eachIs_of I hs b rs
    obtain ⟨as, h, _⟩ := Rep.reads I (a.sub hs) r
    exact ⟨(_, _) :: bs, by simp [e1], by simp [e2], .cons ⟨r, a⟩ e3, .cons ⟨as, h⟩ e4⟩
theorem eachIs_back {G : Hp} : ∀ {us : List Value} {bs : List (V × PyData)}, PySem.W.EachIs (fun u b => RelV b.1 u ∧ Rep X.K G b.1 b.2) us bs → Vals (bs.map (·.1)) us ∧ RepL X.K G (bs.map (·.1)) (bs.map (·.2))
  | _, _, .nil => ⟨.nil, .nil⟩
  | _, _, .cons a b => ⟨.cons a.1 (eachIs_back b).1, .cons a.2 (eachIs_back b).2⟩
theorem depth_mem : ∀ {ps : List PyData} {p : PyData}, p ∈ ps → p.depth ≤ PyData.depthAll ps
  | x :: xs, p, h => by
    rw [PyData.depthAll]
    rcases List.mem_cons.mp h with e | h
    · subst e; omega
    · have := depth_mem h; omega
theorem cm_sorted (hK : C.K = X.K) (hu : X.A.units + 64 < cLine) : CallR X (.builtin "sorted") (rOf C gSorted) := fun pins s σ H xs us Q I rv h0 => by
  obtain ⟨G, fp, os, o, ok, ra, e, kq⟩ := rOf_open h0
  unfold gSorted at e
  split at e
  · rename_i o1
    cases ra with
    | cons r1 _ rn =>
      cases rn
      split at e
      · rename_i ys q1
        split at e
        · rename_i ps q2
          split at e
          · rename_i hc
            cases e
            obtain ⟨hl, hd, hal, hso⟩ := hc
            obtain ⟨a, vs, rfl, s1, p1, _⟩ := r1.seq ok.sub q1
            cases rv with
            | cons ru rn =>
              cases rn
              cases ru
              have rp := pys_rep p1 q2
              rw [hK] at rp
              obtain ⟨its, rvs, pl, _⟩ := I.list (.of s1)
              obtain ⟨bs, e1, e2, e3, e4⟩ := eachIs_of I ok.sub rp rvs
              have hal' : PySem.W.AllAlike (bs.map (·.2)) := by
                rw [e2]
                intro x hx y hy
                exact List.all_eq_true.mp (List.all_eq_true.mp hal x hx) y hy
              have hso' : PySem.W.Sortable (bs.map (·.2)) := by
                rw [e2]
                rcases hso with z | z
                · refine .inl fun d hd => ?_
                  have := List.all_eq_true.mp z d hd
                  split at this
                  · exact ⟨_, _, rfl⟩
                  · cases this
                · refine .inr fun d hd => ?_
                  have := List.all_eq_true.mp z d hd
                  split at this
                  · cases this
                  · cases this
                  · exact ⟨by assumption, by assumption⟩
              have hbl : bs.length = ps.length := by rw [← e2, List.length_map]
              refine PySem.W.sorted_data (enc := (·.2)) pl.isList e3 e4 hal' hso' (by rw [hbl]; exact hl) (fun b hb => ?_) fun out ho e5 => ?_
              · have : b.2 ∈ ps := by rw [← e2]; exact List.mem_map.mpr ⟨b, hb, rfl⟩
                have := depth_mem this
                show X.A.units + 2 + b.2.depth < cLine
                omega
              · obtain ⟨w1, w2⟩ := eachIs_back e5
                have hms : (bs.mergeSort (PySem.W.dataLe false (·.2))).map (·.2) = ps.mergeSort (PySem.W.dataLe false id) := by
                  have z := List.map_mergeSort (r := PySem.W.dataLe false (fun b : V × PyData => b.2)) (s := PySem.W.dataLe false id) (f := fun b : V × PyData => b.2) (l := bs) (fun _ _ _ _ => rfl)
                  rw [z, e2]
                rw [hms] at w2
                obtain ⟨n, hn⟩ := sortedAll_at s.heap its (List.toArray out)
                have kp : ∀ b o, s.heap.get? b = some o → (sortedAll s.heap its (List.toArray out)).get? b = some o := fun b o h => sortedAll_old h
                have fr : H (s.heap.objs.size + 1) = none := I.hok.fresh (Nat.le_succ _)
                refine ⟨.ref (s.heap.objs.size + 1), _, I.laid (t' := s.toks) (o := .lst ((bs.mergeSort (PySem.W.dataLe false (·.2))).map (·.1))) kp (Nat.le_succ _) ⟨?_, out, n, w1, hn⟩, rfl, ?_⟩
                · rw [List.length_map, List.length_mergeSort, hbl]; exact hl
                · have kq2 : Kq C G H Q (mkL ((ps.mergeSort (PySem.W.dataLe false id)).map .d)) := by rw [mkL_map]; exact kq
                  have w3 : RepL C.K G ((bs.mergeSort (PySem.W.dataLe false (·.2))).map (·.1)) (ps.mergeSort (PySem.W.dataLe false id)) := by rw [hK]; exact w2
                  exact kq2.lst ok (rfs_rep w3) fr
          · cases e
        · cases e
      · cases e
  · cases e
end
end Mi
set_option Elab.async false
set_option linter.all false
set_option maxRecDepth 100000
set_option maxHeartbeats 2000000
namespace Mi
open PySem PySem.Spec PyProof.Rows L2
def Has (C : Ct) (P : Program) (w : World) (K : PySem.W.Frag) (mg : Str → Option Value) (base : Heap) (k : Nat) (x : Str) (ps : List Str) (n : Nat) (g : DS) : Prop :=
  ∃ f fd, mg x = some (.ref f) ∧ PySem.W.keepIn K (.ref f) = true ∧ Binds K fd ps [] ∧ FnG P w K mg base k f fd ps (spI C n g)
def ExF (C : Ct) (K : PySem.W.Frag) (mg : Str → Option Value) (n : Nat) (x : Str) : Prop :=
  mg x = some (.ref (C.xa n)) ∧ PySem.W.excIn K (C.xa n) He.veBase "ValueError.__new__" = true ∧ PySem.W.keepIn K (.ref (C.xa n)) = true ∧ PySem.W.subIn K (.ref (C.xa n)) (.type "BaseException") = some true ∧ PySem.W.typeIn K (.ref (C.xa n)) = some (.type "type")
structure Fx (C : Ct) (K : PySem.W.Frag) (mg : Str → Option Value) (base : Heap) (frees : List Str) (excs : List (Nat × Str)) (gi : List (Str × Int)) (gs : List (Str × Str)) : Prop where
  hK : C.K = K
  free : ∀ x ∈ frees, mg x = none
  exc : ∀ p ∈ excs, ExF C K mg p.1 p.2
  int : ∀ p ∈ gi, ∃ t, mg p.1 = some (.int p.2 t)
  str : ∀ p ∈ gs, ∃ t, mg p.1 = some (.str p.2 t)
  sys : (base.get? sysModules).isSome = true
theorem has_of {C : Ct} {P : Program} {w : World} {K : PySem.W.Frag} {mg : Str → Option Value} {base : Heap} {x qual : Str} {params : Arguments} {body : List Stmt} {scope : Scope} {f : Addr} {N ps : List Str} {k n : Nat} {Pi : Nat → Bool} {m : MS}
    (F : ∃ fd, FunD K x qual params body scope [] [] f fd) (gm : mg x = some (.ref f)) (S : FnScope N ps scope) (hn : ps.length = n) (hN : n ≤ N.length)
    (hb : ∀ fd, FunD K x qual params body scope [] [] f fd → Binds K fd ps [])
    (hp : ∀ (cd : Value) (A : Around) (outer : List PySem.Env) (s : Shared) (H : Hp) (E : XK), A.guards = some [] → Room k (A.deeper (envOfC qual scope s.heap.objs.size f cd)) → PSs (xOf P w K mg base N qual scope f cd A outer s H E) body (ts C (WD E) Pi m)) :
    Has C P w K mg base (k + 1) x ps n (dSem N.length n Pi m) := by
  obtain ⟨fd, F⟩ := F
  exact ⟨f, fd, gm, F.kp, hb fd F, def_ok F S hn hN hp⟩
section
variable {X : Cx} {C : Ct} {W : WX} {x : Str} {k j : Nat} {ps : List Str} {n : Nat} {g : DS} {as : List Opd} {e : Expr} {es : List Expr} {p pos : Pos}
theorem pm_fn (F : Has C X.prog X.w X.K X.mg X.base k x ps n g) (hr : Room j X.A) (hA : X.A.guards = some []) (tk : Takes X W) (hg : Gl X x) (hj : k ≤ j) (hn : as.length = n)
    (ha : PA X (e :: es) (tAs C W as)) (hdb : (x == ("__debug__" : Str)) = false := by decide) (he : starEach (e :: es) X.env = (false, eval e X.env) :: starEach es X.env := by rfl) (hpl : (backTo pos (starEach es X.env)).any (·.1) = false := by rfl) :
    PE X (.Call (.Name x p) (e :: es) [] pos) (te C W (mCall g as)) := by
  obtain ⟨f, fd, h1, h2, h3, h4⟩ := F
  exact pm_call h4 hr hj hA tk hg h1 h2 h3 hn ha hdb he hpl
theorem pm_fn0 (F : Has C X.prog X.w X.K X.mg X.base k x ps 0 g) (hr : Room j X.A) (hA : X.A.guards = some []) (tk : Takes X W) (hg : Gl X x) (hj : k ≤ j)
    (hdb : (x == ("__debug__" : Str)) = false := by decide) : PE X (.Call (.Name x p) [] [] pos) (te C W (mCall g [])) := by
  obtain ⟨f, fd, h1, h2, h3, h4⟩ := F
  exact pm_call0 h4 hr hj hA tk hg h1 h2 h3 hdb
theorem psm_exc {P : Nat → Bool} {nm : Nat} {z : Str} {q : Nat} {p2 p3 : Pos} (h : ExF C X.K X.mg nm x) (hc : X.calm = true) (tk : Takes X W) (hg : Gl X x) (hdb : (x == ("__debug__" : Str)) = false := by decide) :
    PS X (.Raise (some (.Call (.Name x p) [.Constant (.str z) q p2] [] p3)) none pos) (ts C W P (sRaise nm)) := psm_raise rfl hc tk h.2.1 h.1 h.2.2.1 h.2.2.2.1 h.2.2.2.2 hg hdb
end
def pcOf (vs : List Nat) (i : Nat) : Bool := !(vs.contains i)
theorem pc_out {vs : List Nat} (i : Nat) (h : i ∉ vs) : pcOf vs i = true := by
  unfold pcOf
  simp [h]
def piOf (vs : List Nat) (i : Nat) : Bool := vs.contains i
end Mi
set_option Elab.async false
set_option linter.all false
set_option maxRecDepth 100000
set_option maxHeartbeats 2000000
namespace Mi
open PySem PySem.Spec PyProof.Rows L2
def sMul : List O → Option O
  | [.f (.d (.str x)), .f (.d (.int n))] => if 1 < n ∧ n < 1000 ∧ 0 < x.length ∧ x.length ≤ 1000 then some (.p (.str ⟨(List.replicate n.toNat x.cps).foldl (· ++ ·) #[]⟩)) else none
  | _ => none
theorem repl_size (a : Array Nat) : ∀ (k : Nat) (acc : Array Nat), ((List.replicate k a).foldl (· ++ ·) acc).size = acc.size + k * a.size
  | 0, acc => by simp
  | k + 1, acc => by
    rw [List.replicate_succ, List.foldl_cons, repl_size a k, Array.size_append, Nat.add_mul]
    omega
theorem om_sMul {X : Cx} {C : Ct} : OpM X C (binaryOp .Mult) sMul := fun pins s σ H x y v u Q I rx ry q => by
  obtain ⟨G, fp, os, o, ok, ra, e, kq⟩ := rOf_open q
  obtain ⟨o1, f1, o2, f2, rfl, r1, r2⟩ := ra.two
  unfold sMul at e
  split at e
  · rename_i x n z
    cases z
    split at e
    · rename_i h
      obtain ⟨h1, h2, h3, h4⟩ := h
      cases e
      have e1 := r1.str
      have e2 := r2.int
      subst e1 e2
      obtain ⟨t, rfl⟩ := rx
      obtain ⟨t2, rfl⟩ := ry
      have n1 : ¬ n < 1 := by omega
      have n2 : (n == 1 || x.length == 0) = false := by
        rw [Bool.or_eq_false_iff]
        exact ⟨by simpa using (by omega : n ≠ 1), by simpa using (by omega : x.length ≠ 0)⟩
      refine P.mul_str (by rw [Bool.or_eq_false_iff]; exact ⟨decide_eq_false (by omega), decide_eq_false (by omega)⟩) (fun _ _ z => ?_) (fun _ _ => ?_) ?_
      · have : (x.length : Int) ≤ (2 ^ 63 - 1) / n := by
          rw [Int.le_ediv_iff_mul_le (by omega)]
          have : (x.length : Int) * n ≤ 1000 * 1000 := Int.mul_le_mul (by omega) (by omega) (by omega) (by omega)
          omega
        omega
      · unfold Builtin.Str.tooLong
        refine decide_eq_false ?_
        have : x.length * n.toNat ≤ 1000 * 1000 := Nat.mul_le_mul h4 (by omega)
        rw [sizeLine_eq]
        omega
      · rw [if_neg n1, if_neg (by rw [n2]; exact Bool.false_ne_true)]
        refine ⟨?_, ⟨.str _, H, I.tok _, ⟨_, rfl⟩, kq.f ok (.d (.str _))⟩⟩
        show ((List.replicate n.toNat x.cps).foldl (· ++ ·) #[]).size ≤ sizeLine
        rw [repl_size]
        have : n.toNat * x.cps.size ≤ 1000 * 1000 := Nat.mul_le_mul (by omega) h4
        rw [sizeLine_eq, Array.size_empty]
        omega
    · cases e
  · cases e
def gAdd := gOr iAdd (gOr sAdd (gOr qAdd tAdd))
def gMul := gOr iMul (gOr qMul sMul)
def gEq := dEq
def gNe := dNe
def gLt := gOr iLt dLt
def gIn := gOr sIn dIn
def gNotIn := gOr sNotIn dNotIn
def gIs := gOr gIsN gIsB
def gIsNot := gOr gNotN gNotB
def gIx := gOr qIx sIx
def gCut := gOr qCut (gOr sCut fCut)
section
variable {X : Cx} {C : Ct} (hK : C.K = X.K)
include hK
theorem om_Add : OpM X C (binaryOp .Add) gAdd := om_or om_iAdd (om_or om_sAdd (om_or om_qAdd (om_tAdd hK)))
theorem om_Mul : OpM X C (binaryOp .Mult) gMul := om_or om_iMul (om_or om_qMul om_sMul)
theorem om_Lt (hu : X.A.units + 64 < cLine) : OpM X C (compareOp .Lt) gLt := om_or om_iLt (om_dLt hK hu)
theorem om_In (hu : X.A.units + 64 < cLine) : OpM X C (compareOp .In) gIn := om_or om_sIn (om_dIn hK hu)
theorem om_NotIn (hu : X.A.units + 64 < cLine) : OpM X C (compareOp .NotIn) gNotIn := om_or om_sNotIn (om_dNotIn hK hu)
theorem om_Is : OpM X C (compareOp .Is) gIs := om_or om_isN om_isB
theorem om_IsNot : OpM X C (compareOp .IsNot) gIsNot := om_or om_notN om_notB
theorem im_Ix : IxR X fun x y H Q => rOf C gIx [x, y] H Q := im_or (im_q hK) im_s
theorem slr_Cut : SlR X fun x l u H Q => rOf C gCut [x, pV l, pV u] H Q := slr_or (slr_q hK) (slr_or slr_s (slr_f hK))
end
theorem nb {op : CmpOp} (b : Expr) (h : op ≠ .In := by decide) (h2 : op ≠ .NotIn := by decide) : behindInMarks op b = false := nobehind b h h2
end Mi
set_option Elab.async false
set_option linter.all false
set_option maxRecDepth 100000
set_option maxHeartbeats 4000000
namespace Mi
open PySem PySem.Spec PySem.Calls PyProof.Rows L2
open PySem.W (ksFn ksEnv)
structure PxC (P : Program) (K : PySem.W.Frag) (C f : Addr) (at_ : Str) (params : Arguments) (body : List Stmt) (scope : Scope) : Prop where
  fn : ∃ (nm qual : Str) (oc : Value) (od : Option Addr) (kV doc pm : Value) (an : Option Addr) (cda cc : Addr) (ct : Value) (osl : Array (Option Value)) (c1 c2 : Value) (d1 d2 : Option Addr) (s1 s2 : Array (Option Value)) (vs : Array Value) (file : Str) (tf : Tok),
    K.lookup f = some ⟨oc, od, .func (ksFn nm qual params body scope .none kV doc pm an (.ref cda) ct cc), osl⟩ ∧ PySem.W.codeIn K (.ref cda) qual = true ∧ K.lookup cda = some ⟨c1, d1, .fields vs, s1⟩ ∧ vs[2]? = some (.str file tf) ∧ ((P.main.file : Str) == file) = true ∧
    K.lookup cc = some ⟨c2, d2, .cell (some (.ref C)), s2⟩
  oex : OexC K C
  init : PySem.W.findIn K (.ref C) "__init__" = some (some (.ref f))
  isF : PySem.W.typeIn K (.ref f) = some (.type "function")
  noAt : PySem.W.findIn K (.ref C) at_ = some Option.none
  sup : PySem.W.ks_superIn K C C "__init__" = some (some (.builtin "ValueError.__init__"))
  sub : PySem.W.subIn K (.ref C) (.type "ValueError") = some true
  mro : PySem.W.mroIn K C (.ref C) = some true
  opq : PySem.W.nsIn K cStatics "thirdparty.any" = some Option.none
abbrev pxScope : Scope := { kind := .function, names := [("self", .local), ("index", .local), ("__class__", .free), ("super", .globalImplicit)], isGenerator := false, isCoroutine := false, more := [] }
abbrev pxParams (q0 q1 : Pos) : Arguments := { posonlyargs := [], args := [{ arg := "self", annotation := none, pos := q0 }, { arg := "index", annotation := none, pos := q1 }], vararg := none, kwonlyargs := [], kw_defaults := [], kwarg := none, defaults := [] }
abbrev pxSup (m1 : Str) (jc : Nat) (p0 p1 p2 p3 p4 : Pos) : Expr := .Call (.Attribute (.Call (.Name "super" p0) [] [] p1) "__init__" p2) [.Constant (.str m1) jc p3] [] p4
abbrev pxBody (m1 : Str) (jc : Nat) (p0 p1 p2 p3 p4 p5 p6 p7 p8 p9 : Pos) : List Stmt := [.Expr (pxSup m1 jc p0 p1 p2 p3 p4) p5, .Assign [.Attribute (.Name "self" p6) "index" p7] (.Name "index" p8) p9]
section
variable {X : Cx} {pins : List (Addr × Obj)} {σ : L2.St} {H : Hp} {s : Shared} {C f e : Addr} {u : Value} {y : V} {m1 : Str} {A : Around} {R : Result → Shared → Prop}
variable {q0 q1 p0 p1 p2 p3 p4 p5 p6 p7 p8 p9 : Pos} {jc : Nat}
def PlOk (m1 : Str) (jc : Nat) (p0 p1 p2 p3 p4 : Pos) : Prop := ∀ env : PySem.Env, ∃ pl : Sem Bool, eval (pxSup m1 jc p0 p1 p2 p3 p4) env = (do
      let ov ← attributeBase (.Call (.Name "super" p0) [] [] p1) "__init__" env (eval (.Call (.Name "super" p0) [] [] p1) env)
      standAt p2.atName
      let (f, first) ← holding [ov] (getMethod ov "__init__" pl)
      callWith p4 f first (backTo p4 (starEach [.Constant (.str m1) jc p3] env)) [])
theorem px_run (T : PxC X.prog X.K C f "index" (pxParams q0 q1) (pxBody m1 jc p0 p1 p2 p3 p4 p5 p6 p7 p8 p9) pxScope)
    (hm : X.mg "super" = none) (I : Inv X pins σ H s) (he : H e = some (exo e C none)) (ry : RelV y u) (hd : A.depth < recursionLimit) {args : Args}
    (hb : ∀ nm qual kV doc pm an cda ct cc, BindsTo s (ksFn nm qual (pxParams q0 q1) (pxBody m1 jc p0 p1 p2 p3 p4 p5 p6 p7 p8 p9) pxScope .none kV doc pm an (.ref cda) ct cc) args [("self", .ref e), ("index", u)])
    (htop : (X.prog.main.scope.names.lookup ("super" : Str)).isSome = false) (hev : PlOk m1 jc p0 p1 p2 p3 p4)
    (h : ∀ (dx : Addr) (s' : Shared), H dx = none → dx ≠ e → Inv X pins σ (upd (upd H dx (exd dx [("index", y)])) e (exo e C (some dx))) s' → R (.ok (.ret .none)) s') :
    codeAny (model X.prog X.w) A (.call (.ref f) args) R s := by
  obtain ⟨nm, qual, oc, od, kV, doc, pm, an, cda, cc, ct, osl, c1, c2, d1, d2, s1, s2, vs, file, tf, hf, hcd, hcode, hvs, hfile, hcell⟩ := T.fn
  have KX := I.kIn
  refine ks_codeAny_call_defAt (fd := ksFn nm qual _ _ pxScope .none kV doc pm an (.ref cda) ct cc) (binds := [("self", .ref e), ("index", u)]) hd (KX _ _ hf) rfl I.nolimit (PySem.W.codeRec_of KX hcd) rfl (hb nm qual kV doc pm an cda ct cc) (show ∀ x ∈ pxScope.names, x.2 ≠ .cell by decide) (fun x hx => ?_) (fun h₀ hns kp => ?_) rfl rfl rfl
  · rcases List.mem_cons.mp hx with rfl | hx
    · rfl
    · rcases List.mem_cons.mp hx with rfl | hx
      · rfl
      · cases hx
  have I0 : Inv X pins σ H { s with heap := h₀, toks := s.toks + 2 } := I.kept kp
  obtain ⟨mb, hb1, hb2⟩ := I.mod.blt
  obtain ⟨nm0, qn0, N0, bs0, bm0, sn0, sub0, ab0, col0, dd0, k0, k1, k2, k3, k5, hC, hbm⟩ := T.oex.cls
  obtain ⟨t1, hoe⟩ := exo_at I0.hok he
  obtain ⟨pl, hpl⟩ := hev (callEnv (ksFn nm qual (pxParams q0 q1) (pxBody m1 jc p0 p1 p2 p3 p4 p5 p6 p7 p8 p9) pxScope .none kV doc pm an (.ref cda) ct cc) s.heap.objs.size f)
  refine ks_wpAt_execs_cons (ks_wpAt_Expr_any (ks_wpAt_MethodCall (pl := pl) ?_ hpl))
  refine ks_wpAt_super_base (f := f) (cc := cda) rfl rfl rfl rfl (kp _ _ (KX _ _ hf)) rfl rfl rfl (kp _ _ (KX _ _ hcode)) rfl hvs hfile htop ?_
  refine PySem.W.ks_loadName_global rfl rfl (Calls.loadGlobal_builtin (I.mod.glob.keeps fun b o z => kp b o (I.bk b o z)) hm (hb1.keeps fun b o z => kp b o (I.bk b o z)) ((hb2 "super" (by decide)).trans (by decide +kernel)) ⟨rfl, ?_⟩)
  refine wpAny_loadName_free rfl rfl rfl ⟨_, kp _ _ (KX _ _ hcell), rfl⟩ ?_
  refine wpAny_loadName_local rfl rfl hns (v := .ref e) (by rfl) ?_
  refine ks_wpAny_isType_cls (kp _ _ (KX _ _ hC)) rfl ⟨rfl, ?_⟩
  have ne : e ≠ C := fun z => by
    have q1 := kp _ _ (KX _ _ hC)
    rw [← z] at q1
    have q2 : h₀.get? e = some _ := hoe
    rw [q1] at q2
    cases q2
  obtain ⟨hp0, g, d, t, os⟩ := s
  refine ks_wpAny_call_super (kp _ _ (KX _ _ hC)) rfl hoe rfl (fun c z => by cases z) ((PySem.W.looks_mroIn (KX) T.mro).keeps kp) (fun h1 hso k1' => ?_)
  have I1 : Inv X pins σ H ⟨h1, g, d, t + 2, os⟩ := I0.kept (t' := t + 2) k1'
  have hoe1 := k1' _ _ hoe
  have KX1 := I1.kIn
  have hcl : PySem.W.clsIn X.K C = some { name := nm0, bases := bs0, mro := .ref C :: bm0, ns := N0, qualname := qn0, hasDict := true, slotNames := sn0, subclasses := sub0, abstract := ab0, collection := col0, hasDel := false } := by unfold PySem.W.clsIn; rw [hC] <;> rfl
  have hsup := T.sup
  unfold PySem.W.ks_superIn at hsup
  rw [hcl, Option.bind_some] at hsup
  have It : PySem.W.InstAt h1 e { cls := .ref C, dict := none, data := .fields #[.ref t1, .none, .none, .none, .bool false, .none] } C none := ⟨hoe1, rfl, rfl, trivial⟩
  refine PySem.W.kxs_getMethod PySem.W.kxs_ValueError hso (PySem.W.looks_opaque KX1 T.opq) (fun A Q E s k q => wpAny_bind ((PySem.W.looks_clsIn KX1 hcl) A _ E s k (wpAny_pure q))) rfl KX1 hsup (It.type.andThen (PySem.W.looks_subIn KX1 T.sub)) ne (by decide) ?_
  have kmw : ∀ b o, h1.get? b = some o → (h1.push (PySem.W.kxs_mw "ValueError.__init__" e)).get? b = some o := fun b o z => Heap.get?_push_of_some _ z
  have hmw : (h1.push (PySem.W.kxs_mw "ValueError.__init__" e)).get? h1.objs.size = some (PySem.W.kxs_mw "ValueError.__init__" e) := Heap.get?_push_size _ rfl
  refine PySem.W.kxs_callWith (i := "ValueError.__init__") (x := e) rfl (evalArgs_plain (Calls.spliced_cons (Calls.Constant_str (k := jc) (pos := p3) (Calls.spliced_nil ⟨hmw, ?_⟩))))
  have I2 : Inv X pins σ H ⟨h1.push (PySem.W.kxs_mw "ValueError.__init__" e), g, d, t + 2 + 1 + 1, os⟩ := I1.kept (t' := t + 2 + 1 + 1) kmw
  have hoe2 := kmw _ _ hoe1
  refine wpAny_call (codeAny_of_tree ?_)
  show wpAny _ _ (callAny (.ref h1.objs.size) ⟨[.str m1 (t + 2 + 1)], []⟩) _ _ _
  simp only [callAny]
  refine wpAny_bind (wpAny_load hmw ?_)
  simp only [PySem.W.kxs_mw, show (Value.type "method-wrapper" == Value.type "method" || Value.type "method-wrapper" == Value.type "builtin_function_or_method" || Value.type "method-wrapper" == Value.type "method-wrapper") = true by decide, if_true]
  refine PySem.W.KFB.if_so (by decide) ?_
  refine wpAny_bind (PySem.W.check_bound_init PySem.F.excBase_ValueError.toExcCallFacts (I2.kIn _ _ hC) hoe2 rfl ?_)
  refine wpAny_bind (wpAny_pure (wpAny_pure ?_))
  refine ⟨plainId_quiet PySem.F.excBase_ValueError.init.plain _, codeAny_builtin PySem.F.excBase_ValueError.initEntry ?_⟩
  refine PySem.W.exc_init_tree (cls := .ref C) (t0 := t1) (dv := none) (c2 := .none) (c3 := .none) (b4 := .bool false) hoe2 (by show 1 ≤ sizeLine; rw [sizeLine_eq]; omega) fun h2 k2' hx2 _ => ?_
  have J := I2.write (t' := t + 2 + 1 + 1) (x := e) (e := e) (o := exo e C none) (by rw [he]; exact True.intro) (.inl rfl) k2' ⟨_, hx2⟩ (exo_ok hx2)
  have eu : upd H e (exo e C none) = H := by
    funext b
    by_cases hb : b = e
    · rw [hb, upd_same, he]
    · rw [upd_ne hb]
  rw [eu] at J
  have hns2 : h2.Ns hp0.objs.size (fun x => List.lookup x [("index", u), ("self", Value.ref e)]) := by
    obtain ⟨oL, es, ep, hL, r⟩ := hns
    have neL : hp0.objs.size ≠ e := fun z => by
      have := J.base
      obtain ⟨o, ho⟩ := (I.hok e _ he).2.1
      exact absurd (Heap.lt_size ho) (by rw [← z]; exact Nat.lt_irrefl _)
    exact ⟨oL, es, ep, k2' _ _ neL (kmw _ _ (k1' _ _ hL)), r⟩
  show _root_.PySem.wpAt _ _ _ (execs [.Assign [.Attribute (.Name "self" p6) "index" p7] (.Name "index" p8) p9] _) _ _ _
  refine ks_wpAt_execs_cons (ks_wpAt_Assign_Attr (_root_.PySem.wpAt_of_wpAny ?_))
  refine ESX.ldL (m := fun x => List.lookup x [("index", u), ("self", Value.ref e)]) hns2 (v := u) (by rfl) ?_
  refine ESX.ldL (m := fun x => List.lookup x [("index", u), ("self", Value.ref e)]) hns2 (v := .ref e) (by rfl) ?_
  refine ost_new T.oex J he T.noAt ry fun dx s' n1 n2 J2 => ?_
  exact _root_.PySem.wpAt_of_wpAny (wpAny_execs_nil (h dx s' n1 n2 J2))
theorem px_end {a dx : Addr} {o1 o2 o3 : HO} (n : dx ≠ a) : upd (upd (upd H a o1) dx o2) a o3 = upd (upd H dx o2) a o3 := by
  funext b
  by_cases h : b = a
  · rw [h, upd_same, upd_same]
  · rw [upd_ne h, upd_ne h]
    by_cases h2 : b = dx
    · rw [h2, upd_same, upd_same]
    · rw [upd_ne h2, upd_ne h2, upd_ne h]
theorem pe_px {x : Str} {ex : Expr} {te : TE} {p pos : Pos} {k : Nat} (T : PxC X.prog X.K C f "index" (pxParams q0 q1) (pxBody m1 jc p0 p1 p2 p3 p4 p5 p6 p7 p8 p9) pxScope) (hs : X.mg "super" = none)
    (htop : (X.prog.main.scope.names.lookup ("super" : Str)).isSome = false) (hev : PlOk m1 jc p0 p1 p2 p3 p4) (hr : Room (k + 1) X.A) (hg : Gl X x) (hm : X.mg x = some (.ref C)) (he : PE X ex te)
    (h0 : starEach [ex] X.env = (false, eval ex X.env) :: starEach [] X.env := by rfl) (hdb : (x == ("__debug__" : Str)) = false := by decide) :
    PE X (.Call (.Name x p) [ex] [] pos) (fun σ H Q => te σ H fun y H1 => ∀ a dx, H1 a = none → H1 dx = none → dx ≠ a → Q (.ref a) (upd (upd H1 dx (exd dx [("index", y)])) a (exo a C (some dx)))) := by
  refine ⟨fun pins s σ H Q I h => ?_⟩
  obtain ⟨nm, qn, N, bs, bm, sn, sub, ab, col, dd, k0, k1, k2, k3, k5, hC, hbm⟩ := T.oex.cls
  refine wpAny_Call_Name_kw (ld_glob I hg hm ?_ hdb)
  refine PySem.W.callWith_K (h₀ := X.base) I.ok.mod.kin T.oex.kC ?_ h0 (by rfl)
  rw [h0]
  show wpAny _ _ (spliced ((false, eval ex X.env) :: backTo pos (starEach [] X.env))) _ _ s
  refine Calls.spliced_cons (thn (he.run pins s σ H _ I h) fun u s1 ⟨y, H1, I1, r1, qq⟩ => ?_)
  refine Calls.spliced_nil ⟨I1.kIn, ?_⟩
  show wpAny _ _ (call (.ref C) [u]) _ _ _
  obtain ⟨hp, g, dr, tk, os⟩ := s1
  have hsz : hp.objs.size ≤ hp.objs.size + 1 := Nat.le_succ _
  have hn : H1 (hp.objs.size + 1) = none := I1.hok.fresh hsz
  have kk : ∀ b o, hp.get? b = some o → ((hp.push (PySem.W.kdv_tup [u])).push (PySem.HandSPX.excO C hp.objs.size)).get? b = some o := fun b o e => Heap.get?_push_of_some _ (Heap.get?_push_of_some _ e)
  have hget : ((hp.push (PySem.W.kdv_tup [u])).push (PySem.HandSPX.excO C hp.objs.size)).get? (hp.objs.size + 1) = some (PySem.HandSPX.excO C hp.objs.size) := by heap_get
  have I2 : Inv X pins σ (upd H1 (hp.objs.size + 1) (exo (hp.objs.size + 1) C none)) ⟨(hp.push (PySem.W.kdv_tup [u])).push (PySem.HandSPX.excO C hp.objs.size), g, dr, tk, os⟩ :=
    I1.laid (t' := tk) (a := hp.objs.size + 1) (o := exo (hp.objs.size + 1) C none) (h' := (hp.push (PySem.W.kdv_tup [u])).push (PySem.HandSPX.excO C hp.objs.size)) kk hsz (exo_ok hget)
  refine wpAny_call (PySem.HandSPX.call_own PySem.F.excBase_ValueError (fun Y => PySem.HandSPX.refsVE_contains Y bm hbm) (I1.kIn _ _ hC) (PySem.W.looks_findIn I1.kIn T.init) (fun self => PySem.W.bind_fn I1.kIn self T.isF) (by show 1 ≤ sizeLine; rw [sizeLine_eq]; omega)
    (px_run T hs I2 upd_same r1 (hr.make C [u] []).depth (fun _ _ _ _ _ _ _ _ _ => .of_eq rfl) htop hev fun dx s' n1 n2 J => ⟨rfl, ?_⟩))
  rw [px_end n2] at J
  have nd : H1 dx = none := by rw [upd_ne n2] at n1; exact n1
  exact ⟨.ref (hp.objs.size + 1), _, J, rfl, qq _ dx hn nd n2⟩
end
end Mi
set_option Elab.async false
set_option linter.all false
set_option maxRecDepth 100000
set_option maxHeartbeats 4000000
namespace Mi
open PySem PySem.Spec PySem.Calls PyProof.Rows L2
open PySem.W (ksFn ksEnv)
section
variable {prog : Program} {w : World} {M : Model} {A : Around} {E : Value → Shared → Prop} {R : Result → Shared → Prop} {h : Heap} {g : Array GenState} {d : Drawn} {t : Nat} {os : OsState}
variable {nm q : Str} {C N : Addr} {bs bm bmB : List Value} {hdct : Bool} {sn : List Str} {sub : List Value} {ab : Bool} {col : Option Bool} {dd : Option Addr} {k0 k1 k2 k3 k5 : Option Value} {B newId initId : String} {x : Str} {v : Value}
theorem check_newK (F : ExcBaseFacts B newId initId bmB) (hT : ∀ X : String, bm.contains (.type X) = bmB.contains (.type X)) {Q : Unit → Shared → Prop}
    (hC : h.get? C = some (excClassObj nm q C N bs bm hdct sn sub ab col dd k0 k1 k2 k3 k5 newId)) (hq : Q () ⟨h, g, d, t, os⟩) : wpAny M A (checkBuiltinCall newId ⟨[.ref C], [(x, v)]⟩) Q E ⟨h, g, d, t, os⟩ := by
  have hcont : (Value.ref C :: bm).contains (.type B) = true := by rw [List.contains_cons, hT, F.hasB, Bool.or_true]
  have hstar := F.noStar
  simp only [checkBuiltinCall, F.newKind, F.newSplit, F.newRow]
  repeat (first | refine wpAny_loadPart_at hC ?_ | (refine wpAny_isSubtype_exc hC ?_; rw [hcont]) | refine wpAny_staticBase_exc hC ?_ | refine wpAny_madeBy_exc hC ?_ | simp only [bne_self_eq_false, Bool.false_eq_true, if_false] | wp_step)
  exact hq
theorem newK (F : ExcBaseFacts B newId initId bmB) (hT : ∀ X : String, bm.contains (.type X) = bmB.contains (.type X))
    (hC : h.get? C = some (excClassObj nm q C N bs bm hdct sn sub ab col dd k0 k1 k2 k3 k5 newId))
    (hq : R (.ok (.ret (.ref (h.objs.size + 1)))) ⟨(h.push { cls := .type "tuple", data := .seq ([] : List Value).toArray }).push
      { cls := .ref C, data := .fields #[.ref h.objs.size, .none, .none, .none, .bool false, .none] }, g, d, t, os⟩) :
    codeAny (model prog w) A (.builtin newId ⟨[.ref C], [(x, v)]⟩) R ⟨h, g, d, t, os⟩ := by
  have hends := F.ends
  have hcB : (Value.ref C :: bm).contains (.type B) = true := by rw [List.contains_cons, hT, F.hasB, Bool.or_true]
  have hcA : (Value.ref C :: bm).contains (.type "AttributeError") = false := by rw [List.contains_cons, hT, F.noAttr]; rfl
  have hcN : (Value.ref C :: bm).contains (.type "NameError") = false := by rw [List.contains_cons, hT, F.noName]; rfl
  have hrest : ([] : List Value).length ≤ sizeLine := Nat.zero_le _
  refine codeAny_builtinAt F.entry ?_
  unfold Builtin.«BaseException.__new__»
  refine _root_.PySem.wpAt_bind ?_
  show _root_.PySem.wpAt _ _ _ (stack >>= _) _ _ _
  refine _root_.PySem.wpAt_bind (_root_.PySem.wpAt_stack fun p below => _root_.PySem.wpAt_of_wpAny ?_)
  wp_walk
  refine _root_.PySem.wpAt_of_wpAny ?_
  rw [F.owner]
  repeat (first | with_reducible refine wpAny_madeHere_exc F.canon hC ?_ | with_reducible refine wpAny_loadPart_at hC ?_ | (with_reducible refine wpAny_isSubtype_exc hC ?_; first | rw [hcB] | rw [hcA] | rw [hcN]) | wp_step)
  show R _ _
  rw [Heap.size_push]
  exact hq
theorem type_callK (F : ExcBaseFacts B newId initId bmB) (hT : ∀ X : String, bm.contains (.type X) = bmB.contains (.type X)) {fI : Addr} {Q : Fin → Shared → Prop}
    (hC : h.get? C = some (excClassObj nm q C N bs bm hdct sn sub ab col dd k0 k1 k2 k3 k5 newId))
    (hi : W.Looks (model prog w) h (typeLookup (.ref C) "__init__") (some (.ref fI))) (hb : ∀ self, W.Looks (model prog w) h (bindSpecial (.ref fI) self) (.ref fI, [self]))
    (hq : codeAny (model prog w) A (.call (.ref fI) ⟨[.ref (h.objs.size + 1)], [(x, v)]⟩)
      (fun r s' => match r with | .ok (.ret v) => v = .none ∧ Q (.done (.ret (.ref (h.objs.size + 1)))) s' | .ok _ => False | .error e => E e s')
      ⟨(h.push (PySem.W.kdv_tup [])).push (PySem.HandSPX.excO C h.objs.size), g, d, t, os⟩) :
    wpAny (model prog w) A (Builtin.«type.__call__» ⟨[.ref C], [(x, v)]⟩) Q E ⟨h, g, d, t, os⟩ := by
  repeat (first | with_reducible refine wpAny_loadPart_at hC ?_ | with_reducible refine wpAny_madeBy_exc hC ?_ | wp_step)
  refine codeAny_call_builtin_code (Code.quiet_builtin _ F.quiet) (check_newK F hT hC ?_)
  refine newK F hT hC ?_
  show wpAny _ _ _ _ _ _
  have k : ∀ b o, h.get? b = some o → ((h.push (PySem.W.kdv_tup [])).push (PySem.HandSPX.excO C h.objs.size)).get? b = some o := fun b o e => Heap.get?_push_of_some _ (Heap.get?_push_of_some _ e)
  have hC₁ := k _ _ hC
  have hget : ((h.push (PySem.W.kdv_tup [])).push (PySem.HandSPX.excO C h.objs.size)).get? (h.objs.size + 1) = some (PySem.HandSPX.excO C h.objs.size) := by heap_get
  have hcC : (Value.ref C :: bm).contains (.ref C) = true := by simp
  have i1 := hi.keeps k
  have b1 := (hb (.ref (h.objs.size + 1))).keeps k
  unfold isInstance
  repeat (first | with_reducible refine wpAny_loadPart_at hget ?_ | (with_reducible refine wpAny_isSubtype_exc hC₁ ?_; rw [hcC]) | wp_step)
  show wpAny _ _ (typeLookup (.ref C) _) _ _ _
  refine i1.at ?_
  refine wpAny_holding (wpAny_bind (b1.at ?_))
  refine wpAny_bind (wpAny_call (codeAny_mono hq fun r s' z => ?_))
  rcases r with e | (v | _ | _ | _) <;> first | exact z | exact z.elim | skip
  obtain ⟨rfl, z⟩ := z
  first
    | exact wpAny_pure (wpAny_pure z)
    | (wp_walk; exact z)
theorem call_ownK (F : ExcBaseFacts B newId initId bmB) (hT : ∀ X : String, bm.contains (.type X) = bmB.contains (.type X)) {fI : Addr}
    (hC : h.get? C = some (excClassObj nm q C N bs bm hdct sn sub ab col dd k0 k1 k2 k3 k5 newId))
    (hi : W.Looks (model prog w) h (typeLookup (.ref C) "__init__") (some (.ref fI))) (hb : ∀ self, W.Looks (model prog w) h (bindSpecial (.ref fI) self) (.ref fI, [self]))
    (hq : codeAny (model prog w) (A.under (.builtin "type.__call__" ⟨[.ref C], [(x, v)]⟩)) (.call (.ref fI) ⟨[.ref (h.objs.size + 1)], [(x, v)]⟩) (W.InitBack (h.objs.size + 1) R)
      ⟨(h.push (PySem.W.kdv_tup [])).push (PySem.HandSPX.excO C h.objs.size), g, d, t, os⟩) :
    codeAny (model prog w) A (.call (.ref C) ⟨[], [(x, v)]⟩) R ⟨h, g, d, t, os⟩ := by
  have f1 := tc_lookup
  have f2 := tc_bind (.ref C)
  have hTy : (⟨h, g, d, t, os⟩ : Shared).TypeIs (.ref C) "type" := ⟨_, hC, rfl⟩
  refine codeAny_of_tree ?_
  show wpAny _ _ (callAny (.ref C) _) _ _ _
  repeat (any_goals (first | assumption | with_reducible refine wpAny_loadPart_at hC ?_ | wp_step))
  refine ⟨rfl, ?_⟩
  refine codeAny_call_builtin_at (Code.quiet_builtin _ (by decide +kernel)) entry_typeCall (wpAny_check_type_call_sub hC (type_callK F hT hC hi hb ?_))
  refine codeAny_mono hq fun r s' z => ?_
  rcases r with e | (v | _ | _ | _) <;> exact z
end
end Mi
set_option Elab.async false
set_option linter.all false
set_option maxRecDepth 100000
set_option maxHeartbeats 4000000
namespace PySem.W
open PySem PySem.Spec PySem.Calls PyProof.Rows
section
variable {prog : Program} {w : World} {A : Around} {E : Value → Shared → Prop} {s : Shared} {K : Frag} {x D : Addr} {ox : Obj} {od : Option Obj}
theorem findObj_dataO {C : Addr} {name : Str} {a g : Value} (hc : (clsIn K C).isSome = true) (ha : findIn K (.ref C) name = some (some a)) (hg : specialIn K a "__get__" = some (some g)) (ht : takesIn K a = some true) : findObj K C od name = some (.bind g a) := by
  obtain ⟨cd, hc⟩ := Option.isSome_iff_exists.mp hc
  unfold findObj
  rw [hc, Option.bind_some, ha, Option.bind_some]
  simp [hg, ht]
theorem kin_classO {Q : Option Value → Shared → Prop} (hga : findIn K (.ref D) "__getattribute__" = some (some (.builtin "BaseException.__getattribute__"))) (hgt : findIn K (.ref D) "__getattr__" = some none) (hsub : subIn K (.ref D) (.type "BaseException") = some true)
    (hdct : hasDictIn K D = true) (ha : findIn K (.ref D) "__class__" = some (some (.builtin "object.__class__")))
    (hn : specialIn K (.builtin "object.__class__") "__get__" = some (some (.builtin "getset_descriptor.__get__"))) (htk : takesIn K (.builtin "object.__class__") = some true) (hm : mroIn K D (.type "object") = some true)
    (X : K.In s.heap) (I : InstAt s.heap x ox D od) (h : Q (some (.ref D)) { s with toks := s.toks + 1 }) : wpAny (model prog w) A (getAttr? (.ref x) "__class__") Q E s := by
  have hf : findObj K D od "__class__" = some (.bind (.builtin "getset_descriptor.__get__") (.builtin "object.__class__")) := findObj_dataO (by obtain ⟨cd, hc, _⟩ := any_some hdct; rw [hc]; rfl) ha hn htk
  obtain ⟨hp, g, d, t, os⟩ := s
  have L0 := I.type (M := model prog w)
  have L1 := looks_findIn (M := model prog w) X hga
  have L2 := looks_findIn (M := model prog w) X hgt
  have L3 := looks_find (M := model prog w) X I hf
  have sub : Looks (model prog w) hp (isInstance (.ref x) (.type "BaseException")) true := L0.andThen (looks_subIn X hsub)
  have hx0 : (false && onTheHeap (Value.builtin "BaseException.__getattribute__")) = false := rfl
  have hx2 : (Value.builtin "BaseException.__getattribute__" == Value.builtin "object.__getattribute__") = false := by decide +kernel
  have hx1 : (onTheHeap (Value.ref D) && Value.builtin "BaseException.__getattribute__" == Value.builtin "object.__getattribute__") = false := by rw [hx2]; rfl
  unfold getAttr? getAttrBy? getAttrBy
  refine wpAny_bind (wpAny_mkText (wpAny_bind (wpAny_attempt (wpAny_holding (wpAny_bind (L0.at (wpAny_bind (L1.at ?_))))))))
  show wpAny _ _ (if (onTheHeap (Value.ref D) && Value.builtin "BaseException.__getattribute__" == Value.builtin "object.__getattribute__") = true then _ else _) _ _ _
  rw [hx1, if_neg Bool.false_ne_true]
  unfold getAttrByItsOwn hookBefore
  refine wpAny_bind ?_
  rw [if_pos (show onTheHeap (Value.ref D) = true from rfl)]
  refine L2.at ?_
  refine wpAny_bind (wpAny_attempt (wpAny_holding ?_))
  unfold callGetattribute
  rw [hx0, if_neg Bool.false_ne_true]
  unfold boundAndCalled
  rw [PySem.F.excAttr_ValueError.ga.bind (.ref x)]
  refine wpAny_bind (wpAny_pure ?_)
  show wpAny _ _ (call (.builtin "BaseException.__getattribute__") [.ref x, .str "__class__" t]) _ _ _
  refine wpAny_call (codeAny_call_builtin PySem.F.excAttr_ValueError.ga.plain PySem.F.entry_bexc_ga ?_)
  refine @check_slot (model prog w) _ _ ⟨hp, g, d, t + 1, os⟩ "BaseException.__getattribute__" "BaseException" "__getattribute__" (.ref x) [.str "__class__" t] [] _ (by decide +kernel) (by decide +kernel) sub (PySem.F.args_bexc_ga (.ref x) (.str "__class__" t)) ?_
  unfold Builtin.«object.__getattribute__»
  refine wpAny_bind (wpAny_of_eq (a := ((Value.ref x : Value), [Value.str "__class__" t])) (by first | rfl | (simp only [slotArgs]; rfl)) ?_)
  refine wpAny_bind (wpAny_pure (wpAny_bind (L0.at (wpAny_bind (L3.at ?_)))))
  show wpAny _ _ (holding [Value.builtin "object.__class__"] (call (.builtin "getset_descriptor.__get__") [.builtin "object.__class__", .ref x, .ref D]) >>= ret) _ _ _
  refine wpAny_bind (wpAny_holding (wpAny_call (class_get (s := ⟨hp, g, d, t + 1, os⟩) (ox := ox) (od := od) X I hm ?_)))
  refine wpAny_pure ?_
  show wpAny _ _ (handedOut (.ref D)) _ _ _
  rw [handedOut_of (v := .ref D) rfl]
  first
    | exact wpAny_pure (wpAny_pure h)
    | exact wpAny_pure h
    | exact wpAny_pure (wpAny_bind (wpAny_pure (wpAny_pure h)))
theorem kitx_excO (C : L2.ExcC K D) : KitX K (.ref x) (.ref D) (fun h => ∃ ox od, InstAt h x ox D od) where
  ty := fun _ _ _ ⟨_, _, I⟩ => I.type
  it := fun _ _ X _ => by
    obtain ⟨cdD, hcD, _⟩ := any_some C.hd
    unfold clsIn at hcD
    split at hcD
    · rename_i c' d' cd' sl' ho
      intro A' Q' E' s' k q
      unfold isType loadHead
      exact wpAny_bind (wpAny_loadPart (k _ _ (X _ _ ho)) (wpAny_pure q))
    · cases hcD
  ne := fun h tp dd its n sl X htp => by
    obtain ⟨cdD, hcD, _⟩ := any_some C.hd
    refine Bool.eq_false_iff.mpr fun q => ?_
    have e : D = tp := Value.ref.inj (beq_iff_eq.mp q)
    subst e
    unfold clsIn at hcD
    split at hcD
    · rename_i c' d' cd' sl' ho
      have z := (X _ _ ho).symm.trans htp
      cases z
    · cases hcD
  ca := fun X ⟨_, _, I⟩ k => kin_classO C.hg C.hk C.hs C.hd C.ha C.hn C.ht C.hm X I k
end
end PySem.W
namespace Mi
open PySem PySem.Spec PySem.Calls PyProof.Rows L2
open PySem.W (ksFn ksEnv)
theorem xinst {C : Ct} {P : Program} {w : World} {G H : Hp} {s : Heap} {v : V} {c : Nat} {p : Option Int} (hok : HOk P w H s) (hs : ∀ a u, G a = some u → H a = some u) (r : RF C G v (.x c p)) : ∃ a, v = .ref a ∧ ∃ ox od, PySem.W.InstAt s a ox (C.xa c) od := by
  cases r with
  | x h =>
    obtain ⟨⟨oe, vs, ho, ⟨z1, z2⟩, hd, _⟩, _, _⟩ := hok _ _ (hs _ _ h)
    refine ⟨_, rfl, oe, none, ho, z1, by unfold PySem.W.notCls; rw [hd] <;> rfl, ?_⟩
    rw [z2]; exact True.intro
  | xp h h2 =>
    obtain ⟨t1, ho⟩ := exo_at hok (hs _ _ h)
    obtain ⟨mA, hns, hr⟩ := exd_at hok (hs _ _ h2)
    obtain ⟨od, hd, _⟩ := lookIn_ns hns
    exact ⟨_, rfl, _, some od, ho, rfl, rfl, hd⟩
structure XC (C : Ct) (K : PySem.W.Frag) (n : Nat) (sb : Nat → Nat → Bool) : Prop where
  ok : ∀ c < n, ExcC K (C.xa c)
  sub : ∀ c < n, ∀ j < n, PySem.W.kitOne K (.ref (C.xa c)) (.ref (C.xa j)) = some (sb c j)
  ve : ∀ c < n, PySem.W.kitOne K (.ref (C.xa c)) (.type "ValueError") = some true
def gIsX (n : Nat) (f : Nat → Bool) : List O → Option O
  | [.f (.x c _)] => if c < n then some (.p (.bool (f c))) else none
  | _ => none
def rIsX (C : Ct) (cls : V) (n : Nat) (f : Nat → Bool) : List V → Hp → VK → Prop := fun vs H Q => ∃ v, vs = [v, cls] ∧ rOf C (gIsX n f) [v] H Q
theorem cm_isX {X : Cx} {C : Ct} {n : Nat} {f : Nat → Bool} {cls : V} {cv : Value} (ok : ∀ c < n, ExcC X.K (C.xa c)) (hcv : ∀ u, RelV cls u → u = cv)
    (h : ∀ c < n, PySem.W.kitOne X.K (.ref (C.xa c)) cv = some (f c)) : CallR X (.builtin "isinstance") (rIsX C cls n f) := fun pins s σ H xs us Q I rv h0 => by
  obtain ⟨v, rfl, h0⟩ := h0
  obtain ⟨u, w, rfl, ru, rw⟩ := vals2 rv
  have ec := hcv w rw
  subst ec
  obtain ⟨G, fp, os, o, ok', ra, e, kq⟩ := rOf_open h0
  unfold gIsX at e
  split at e
  · rename_i c p
    split at e
    · rename_i hc
      cases e
      cases ra with
      | cons r1 _ rn =>
        cases r1 with
        | f r1 =>
          obtain ⟨a, rfl, ox, od, J⟩ := xinst I.hok ok'.sub r1
          cases ru
          exact PySem.W.kia_one (PySem.W.kitx_excO (ok c hc)) I.kIn ⟨ox, od, J⟩ (h c hc) (fun z => nomatch z) fun tk => ⟨.bl _, H, I.kept (t' := tk) fun _ _ z => z, rfl, kq.f ok' (.d (.bl _))⟩
    · cases e
  · cases e
section
variable {X : Cx} {C : Ct} {W : WX} {e : Expr} {oa : Opd} {x : Str} {p p2 pos : Pos} {n j : Nat} {sb : Nat → Nat → Bool}
theorem pm_isX (T : XC C X.K n sb) (hj : j < n) (hm : X.mg "isinstance" = none) (hmt : X.mg x = some (.ref (C.xa j))) (hg : Gl X "isinstance") (hgt : Gl X x) (ha : PE X e (tO C W oa)) (hdb : (x == ("__debug__" : Str)) = false := by decide)
    (h1 : starEach [e, .Name x p2] X.env = (false, eval e X.env) :: starEach [.Name x p2] X.env := by rfl) (h2 : starEach [.Name x p2] X.env = (false, eval (.Name x p2) X.env) :: starEach [] X.env := by rfl)
    (hpl : (backTo pos (starEach [.Name x p2] X.env)).any (·.1) = false := by rfl) : PE X (.Call (.Name "isinstance" p) [e, .Name x p2] [] pos) (te C W (mAp (gIsX n fun c => sb c j) [oa])) :=
  (pe_callB (cm_isX (cls := .ref (C.xa j)) T.ok (fun u h => h) fun c hc => T.sub c hc j hj) hg hm (by decide +kernel) (pa_cons ha (pa_cons (pe_glob (v := .ref (C.xa j)) hgt hmt rfl hdb) pa_nil h2) h1) (by decide) (by decide) h1 hpl).imp fun σ H Q h => by
    exact tO_mono (a := oa) (ap_run h) fun v H1 q => ⟨v, rfl, q⟩
theorem pm_isV (T : XC C X.K n sb) (hm : X.mg "isinstance" = none) (hmt : X.mg "ValueError" = none) (hg : Gl X "isinstance") (hgt : Gl X "ValueError") (ha : PE X e (tO C W oa))
    (h1 : starEach [e, .Name "ValueError" p2] X.env = (false, eval e X.env) :: starEach [.Name "ValueError" p2] X.env := by rfl) (h2 : starEach [.Name "ValueError" p2] X.env = (false, eval (.Name "ValueError" p2) X.env) :: starEach [] X.env := by rfl)
    (hpl : (backTo pos (starEach [.Name "ValueError" p2] X.env)).any (·.1) = false := by rfl) : PE X (.Call (.Name "isinstance" p) [e, .Name "ValueError" p2] [] pos) (te C W (mAp (gIsX n fun _ => true) [oa])) :=
  (pe_callB (cm_isX (cls := .ty "ValueError") T.ok (fun u h => h) T.ve) hg hm (by decide +kernel) (pa_cons ha (pa_cons (pe_bltn (v := .ty "ValueError") hgt hmt (by decide +kernel) (show RelV (.ty "ValueError") (.type "ValueError") from rfl) (by decide) (by decide)) pa_nil h2) h1) (by decide) (by decide) h1 hpl).imp fun σ H Q h => by
    exact tO_mono (a := oa) (ap_run h) fun v H1 q => ⟨v, rfl, q⟩
def gIndex (n : Nat) : List O → Option O
  | [.f (.x c (some i))] => if c = n then some (.p (.int i)) else none
  | _ => none
theorem pm_index (T : XfC X.K (C.xa n)) (hno : PySem.W.findIn X.K (.ref (C.xa n)) "index" = some none) (ha : PE X e (tO C W oa)) (hb : attributeBase e "index" X.env (eval e X.env) = eval e X.env := by rfl) : PE X (.Attribute e "index" pos) (te C W (mAp (gIndex n) [oa])) := by
  refine ⟨fun pins s σ H Q I h => ?_⟩
  have h' : tO C W oa σ H (fun v H1 => rOf C (gIndex n) [v] H1 Q) := ap_run h
  refine attr_of hb (thn (ha.run pins s σ H _ I h') fun u s1 ⟨v, H1, I1, rv, q⟩ => ?_)
  obtain ⟨G, fp, os, o, ok', ra, e, kq⟩ := rOf_open q
  unfold gIndex at e
  split at e
  · rename_i c i
    split at e
    · rename_i hc
      cases e
      subst hc
      cases ra with
      | cons r1 _ rn =>
        cases r1 with
        | f r1 =>
          cases r1 with
          | xp g1 g2 =>
            cases rv
            obtain ⟨t1, ho⟩ := exo_at I1.hok (ok'.sub _ _ g1)
            obtain ⟨mA, hns, hr⟩ := exd_at I1.hok (ok'.sub _ _ g2)
            obtain ⟨od, hd, hl⟩ := lookIn_ns hns
            obtain ⟨u, hu, ru⟩ := RelO.some_of (v := .int i) (o := mA "index") (hr "index")
            exact HandSPX.exc_get I1.kIn ⟨ho, rfl, rfl, hd⟩ T.ga T.gg T.exC (PySem.W.findObj_own T.hdC hno rfl (by rw [hl, hu])) (handed_of ru) ⟨.int i, H1, I1.tok _, ru, kq.f ok' (.d (.int i))⟩
    · cases e
  · cases e
end
def mNewX (c : Nat) (m : M O) : M O := fun env => match m env with
  | some (.ok _ e) => some (.ok (.f (.x c none)) e)
  | some (.ex x e) => some (.ex x e)
  | none => none
def mNewP (c : Nat) (m : M O) : M O := fun env => match m env with
  | some (.ok (.f (.d (.int i))) e) => some (.ok (.f (.x c (some i))) e)
  | some (.ex x e) => some (.ex x e)
  | _ => none
theorem newX_run {C : Ct} {W : WX} {σ : L2.St} {H : Hp} {Q : VK} {c : Nat} {m : M O} (h : te C W (mNewX c m) σ H Q) : te C W m σ H (fun _ H1 => ∀ a, H1 a = none → Q (.ref a) (upd H1 a (ExO (.ref (C.xa c)) a))) := by
  obtain ⟨G, fp, env, ok, re, h⟩ := h
  refine ⟨G, fp, env, ok, re, ?_⟩
  unfold mNewX at h
  cases q : m env with
  | none => rw [q] at h; exact h
  | some z =>
    rw [q] at h
    cases z with
    | ex x e => exact h
    | ok o e =>
      intro G1 H1 v fv fq mv ok1 re1 ro a ha
      have mv2 : Mv G H fp G1 H1 fq := mv.weak fun b hb => List.mem_append_right _ hb
      have ok2 : Ok C G1 H1 fq := ⟨ok1.sub, ok1.gt, (List.nodup_append.mp ok1.nd).2.1, fun b hb => ok1.ds b (List.mem_append_right _ hb), ok1.tb⟩
      have ad : Ad G1 H1 (upd G1 a (ExO (.ref (C.xa c)) a)) (upd H1 a (ExO (.ref (C.xa c)) a)) [] := Ad.still ok2 ha fun ps z => by
        have z' : HO.ext _ = HO.tbl ps := z
        cases z'
      exact Kv.seq h mv2 _ _ (.ref a) [] fq ad.mv (ad.ok ok2 re1.nn) (re1.ad ad) (.f (.x upd_same))
theorem newP_run {C : Ct} {W : WX} {σ : L2.St} {H : Hp} {Q : VK} {c : Nat} {m : M O} (h : te C W (mNewP c m) σ H Q) :
    te C W m σ H (fun y H1 => ∀ a dx, H1 a = none → H1 dx = none → dx ≠ a → Q (.ref a) (upd (upd H1 dx (exd dx [("index", y)])) a (exo a (C.xa c) (some dx)))) := by
  obtain ⟨G, fp, env, ok, re, h⟩ := h
  refine ⟨G, fp, env, ok, re, ?_⟩
  unfold mNewP at h
  cases q : m env with
  | none => rw [q] at h; exact h
  | some z =>
    rw [q] at h
    cases z with
    | ex x e => exact h
    | ok o e =>
      intro G1 H1 v fv fq mv ok1 re1 ro a dx ha hdx nd
      split at h
      · rename_i i e' z
        cases z
        cases ro with
        | f ro =>
          cases ro with
          | d ro =>
            cases ro
            have ad1 : Ad G1 H1 (upd G1 dx (exd dx [("index", .int i)])) (upd H1 dx (exd dx [("index", .int i)])) [] := Ad.still ok1 hdx fun ps z => by
              have z' : HO.ext _ = HO.tbl ps := z
              cases z'
            have ok2 := ad1.ok ok1 re1.nn
            have ha2 : upd H1 dx (exd dx [("index", .int i)]) a = none := by rw [upd_ne (Ne.symm nd)]; exact ha
            have ad2 : Ad _ _ (upd (upd G1 dx (exd dx [("index", .int i)])) a (exo a (C.xa c) (some dx))) (upd (upd H1 dx (exd dx [("index", .int i)])) a (exo a (C.xa c) (some dx))) [] := Ad.still ok2 ha2 fun ps z => exo_tbl z
            have ad := ad1.seq ad2
            exact Kv.seq h mv _ _ (.ref a) [] fq ad.mv (ad.ok ok1 re1.nn) (re1.ad ad) (.f (.xp upd_same (by rw [upd_ne nd]; exact upd_same)))
      · rename_i z; cases z
      · exact h.elim
section
variable {X : Cx} {C : Ct} {W : WX} {ex : Expr} {m : M O} {x : Str} {p pos : Pos} {k j n : Nat}
theorem pm_newX (F : ExF C X.K X.mg n x) (hg : Gl X x) (he : PE X ex (te C W m)) (hs : starEach [ex] X.env = (false, eval ex X.env) :: starEach [] X.env := by rfl) (hdb : (x == ("__debug__" : Str)) = false := by decide) :
    PE X (.Call (.Name x p) [ex] [] pos) (te C W (mNewX n m)) :=
  (pe_exc1 PySem.F.excBase_ValueError F.2.1 F.1 F.2.2.1 hg he hs hdb).imp fun _ _ _ h => newX_run h
end
section
variable {X : Cx} {C : Ct} {W : WX} {f : Addr} {m1 : Str} {q0 q1 p0 p1 p2 p3 p4 p5 p6 p7 p8 p9 : Pos} {jc : Nat} {ex : Expr} {m : M O} {x : Str} {p pos : Pos} {k n : Nat}
theorem pm_newP (T : PxC X.prog X.K (C.xa n) f "index" (pxParams q0 q1) (pxBody m1 jc p0 p1 p2 p3 p4 p5 p6 p7 p8 p9) pxScope) (hs : X.mg "super" = none)
    (htop : (X.prog.main.scope.names.lookup ("super" : Str)).isSome = false) (hev : PlOk m1 jc p0 p1 p2 p3 p4) (hr : Room (k + 1) X.A) (hg : Gl X x) (hm : X.mg x = some (.ref (C.xa n))) (he : PE X ex (te C W m))
    (h0 : starEach [ex] X.env = (false, eval ex X.env) :: starEach [] X.env := by rfl) (hdb : (x == ("__debug__" : Str)) = false := by decide) :
    PE X (.Call (.Name x p) [ex] [] pos) (te C W (mNewP n m)) := (pe_px T hs htop hev hr hg hm he h0 hdb).imp fun _ _ _ h => newP_run h
theorem pm_newPK {kpos : Pos} (T : PxC X.prog X.K (C.xa n) f "index" (pxParams q0 q1) (pxBody m1 jc p0 p1 p2 p3 p4 p5 p6 p7 p8 p9) pxScope) (hs : X.mg "super" = none)
    (htop : (X.prog.main.scope.names.lookup ("super" : Str)).isSome = false) (hev : PlOk m1 jc p0 p1 p2 p3 p4) (hr : Room (k + 1) X.A) (hg : Gl X x) (hm : X.mg x = some (.ref (C.xa n))) (he : PE X ex (te C W m))
    (hall : (backToKw pos (keywordEach [⟨some "index", ex, kpos⟩] X.env)).all (·.1.isSome) = true := by rfl) (hks : (backToKw pos (keywordEach [⟨some "index", ex, kpos⟩] X.env)).filterMap (·.1) = [("index" : Str)] := by rfl) (hdb : (x == ("__debug__" : Str)) = false := by decide)
    (hpl : ((backTo pos (starEach [] X.env)).any (·.1) || (backToKw pos (keywordEach [⟨some "index", ex, kpos⟩] X.env)).any (·.1.isNone)) = false := by rfl) :
    PE X (.Call (.Name x p) [] [⟨some "index", ex, kpos⟩] pos) (te C W (mNewP n m)) := by
  refine PE.imp (t := fun σ H Q => te C W m σ H fun y H1 => ∀ a dx, H1 a = none → H1 dx = none → dx ≠ a → Q (.ref a) (upd (upd H1 dx (exd dx [("index", y)])) a (exo a (C.xa n) (some dx)))) ⟨fun pins s σ H Q I h => ?_⟩ fun _ _ _ h => newP_run h
  obtain ⟨nm, qn, N, bs, bm, sn, sub, ab, col, dd, k0, k1, k2, k3, k5, hC, hbm⟩ := T.oex.cls
  refine wpAny_Call_Name_kw (ld_glob I hg hm ?_ hdb)
  refine PySem.W.callWith_KW0 (h₀ := X.base) I.ok.mod.kin T.oex.kC hall ?_ hpl
  have hk : PK X [⟨some "index", ex, kpos⟩] (tCons (te C W m) tNil) := pk_cons he pk_nil
  have h' : (tCons (te C W m) tNil) σ H (fun vs H1 => ∃ y, vs = [y] ∧ ∀ a dx, H1 a = none → H1 dx = none → dx ≠ a → Q (.ref a) (upd (upd H1 dx (exd dx [("index", y)])) a (exo a (C.xa n) (some dx)))) := by
    refine te_mono h fun y H1 q => ?_
    exact ⟨y, rfl, q⟩
  refine thn (hk.run pos pins s σ H _ I h') fun ws s1 ⟨zs, H1, I1, rz, y, ez, qq⟩ => ⟨I1.kIn, ?_⟩
  subst ez
  obtain ⟨u, rfl, r1⟩ := vals1 rz
  rw [hks]
  show wpAny _ _ (call (.ref (C.xa n)) [] [("index", u)]) _ _ _
  obtain ⟨hp, g, dr, tk, os⟩ := s1
  have hsz : hp.objs.size ≤ hp.objs.size + 1 := Nat.le_succ _
  have hn : H1 (hp.objs.size + 1) = none := I1.hok.fresh hsz
  have kk : ∀ b o, hp.get? b = some o → ((hp.push (PySem.W.kdv_tup [])).push (PySem.HandSPX.excO (C.xa n) hp.objs.size)).get? b = some o := fun b o e => Heap.get?_push_of_some _ (Heap.get?_push_of_some _ e)
  have hget : ((hp.push (PySem.W.kdv_tup [])).push (PySem.HandSPX.excO (C.xa n) hp.objs.size)).get? (hp.objs.size + 1) = some (PySem.HandSPX.excO (C.xa n) hp.objs.size) := by heap_get
  have I2 : Inv X pins σ (upd H1 (hp.objs.size + 1) (exo (hp.objs.size + 1) (C.xa n) none)) ⟨(hp.push (PySem.W.kdv_tup [])).push (PySem.HandSPX.excO (C.xa n) hp.objs.size), g, dr, tk, os⟩ :=
    I1.laid (t' := tk) (a := hp.objs.size + 1) (o := exo (hp.objs.size + 1) (C.xa n) none) (h' := (hp.push (PySem.W.kdv_tup [])).push (PySem.HandSPX.excO (C.xa n) hp.objs.size)) kk hsz (exo_ok hget)
  refine wpAny_call (call_ownK PySem.F.excBase_ValueError (fun Y => PySem.HandSPX.refsVE_contains Y bm hbm) (I1.kIn _ _ hC) (PySem.W.looks_findIn I1.kIn T.init) (fun self => PySem.W.bind_fn I1.kIn self T.isF)
    (px_run T hs I2 upd_same r1 (hr.make (C.xa n) [] [("index", u)]).depth (fun _ _ _ _ _ _ _ _ _ => .of_eq rfl) htop hev fun dx s' n1 n2 J => ⟨rfl, ?_⟩))
  rw [px_end n2] at J
  have nd : H1 dx = none := by rw [upd_ne n2] at n1; exact n1
  exact ⟨.ref (hp.objs.size + 1), _, J, rfl, qq _ dx hn nd n2⟩
end
end Mi
set_option Elab.async false
set_option linter.all false
set_option maxRecDepth 100000
set_option maxHeartbeats 4000000
namespace Mi
open PySem PySem.Spec PySem.Calls PyProof.Rows L2
open PySem.W (ksFn ksEnv)
open He (Fa DefD FnW AlD)
def oexB (K : PySem.W.Frag) (C : Addr) : Bool := (match K.lookup C with
    | some ⟨.type "type", _, .cls cd, sl⟩ => (match cd.mro, sl.toList with
      | .ref C' :: bm, [_, _, _, _, some (.builtin n), _] => C' == C && n == "ValueError.__new__" && !cd.hasDel && cd.hasDict && PySem.HandSPX.refsVE bm
      | _, _ => false)
    | _ => false) && (He.eqO (PySem.W.findIn K (.ref C) "__setattr__") (some (some (.builtin "object.__setattr__"))) && (decide (PySem.W.subIn K (.ref C) (.type "BaseException") = some true) &&
    (decide (PySem.W.typeIn K (.ref C) = some (.type "type")) && PySem.W.keepIn K (.ref C))))
theorem oexB_ok {K : PySem.W.Frag} {C : Addr} (h : oexB K C = true) : OexC K C := by
  obtain ⟨q, h⟩ := He.ba h
  obtain ⟨h1, h⟩ := He.ba h
  obtain ⟨h2, h⟩ := He.ba h
  obtain ⟨h3, h4⟩ := He.ba h
  refine ⟨?_, He.eqO_ok h1, of_decide_eq_true h2, of_decide_eq_true h3, h4⟩
  split at q
  · rename_i dd cd sl ho
    split at q
    · rename_i C' bm k0 k1 k2 k3 n k5 hm hs
      simp only [Bool.and_eq_true, beq_iff_eq, Bool.not_eq_true'] at q
      obtain ⟨⟨⟨⟨rfl, rfl⟩, hdel⟩, hdct⟩, ht⟩ := q
      obtain ⟨nm, bs, mro, ns, qn, hd, sn, sub, ab, col, del⟩ := cd
      dsimp only at hm hdel hdct
      subst hm hdel hdct
      have hsl : sl = #[k0, k1, k2, k3, some (.builtin "ValueError.__new__"), k5] := by
        obtain ⟨l⟩ := sl
        simp only at hs
        rw [hs]
      subst hsl
      exact ⟨nm, qn, ns, bs, bm, sn, sub, ab, col, dd, k0, k1, k2, k3, k5, ho, ht⟩
    · cases q
  · cases q
def xccB (K : PySem.W.Frag) (D : Addr) : Bool := He.eqO (PySem.W.findIn K (.ref D) "__getattribute__") (some (some (.builtin "BaseException.__getattribute__"))) && (He.eqO (PySem.W.findIn K (.ref D) "__getattr__") (some none) &&
  (decide (PySem.W.subIn K (.ref D) (.type "BaseException") = some true) && (PySem.W.hasDictIn K D && (He.eqO (PySem.W.findIn K (.ref D) "__class__") (some (some (.builtin "object.__class__"))) &&
  (He.eqO (PySem.W.specialIn K (.builtin "object.__class__") "__get__") (some (some (.builtin "getset_descriptor.__get__"))) && (decide (PySem.W.takesIn K (.builtin "object.__class__") = some true) && decide (PySem.W.mroIn K D (.type "object") = some true)))))))
theorem xccB_ok {K : PySem.W.Frag} {D : Addr} (h : xccB K D = true) : ExcC K D := by
  obtain ⟨h1, h⟩ := He.ba h
  obtain ⟨h2, h⟩ := He.ba h
  obtain ⟨h3, h⟩ := He.ba h
  obtain ⟨h4, h⟩ := He.ba h
  obtain ⟨h5, h⟩ := He.ba h
  obtain ⟨h6, h⟩ := He.ba h
  obtain ⟨h7, h8⟩ := He.ba h
  exact ⟨He.eqO_ok h1, He.eqO_ok h2, of_decide_eq_true h3, h4, He.eqO_ok h5, He.eqO_ok h6, of_decide_eq_true h7, of_decide_eq_true h8⟩
def xcB (K : PySem.W.Frag) (xs : List Str) (sb : Nat → Nat → Bool) : Bool := (List.range xs.length).all fun c => let a := He.ga K (xs.getD c "")
  xccB K a && (decide (PySem.W.kitOne K (.ref a) (.type "ValueError") = some true) && (List.range xs.length).all fun j => decide (PySem.W.kitOne K (.ref a) (.ref (He.ga K (xs.getD j ""))) = some (sb c j)))
theorem xcB_ok {K : PySem.W.Frag} {xs : List Str} {sb : Nat → Nat → Bool} {C : Ct} (hC : C.xa = fun c => He.ga K (xs.getD c "")) (h : xcB K xs sb = true) : XC C K xs.length sb := by
  have k : ∀ c < xs.length, _ := fun c hc => List.all_eq_true.mp h c (List.mem_range.mpr hc)
  refine ⟨fun c hc => ?_, fun c hc j hj => ?_, fun c hc => ?_⟩
  · rw [hC]; exact xccB_ok (He.ba (k c hc)).1
  · rw [hC]; exact of_decide_eq_true (List.all_eq_true.mp (He.ba (He.ba (k c hc)).2).2 j (List.mem_range.mpr hj))
  · rw [hC]; exact of_decide_eq_true (He.ba (He.ba (k c hc)).2).1
abbrev PxW : Type := Option (Str × Arguments × FuncBody × Scope × Addr × List Str × Addr)
def pxW (K : PySem.W.Frag) (x : Str) : PxW := match K.lookup (He.ma K (He.ga K x) "__init__") with
  | some ⟨_, _, .func fd, _⟩ => some (fd.qualname, fd.params, fd.body, fd.scope, fd.globals, fd.closure.map (·.1), fd.builtins)
  | _ => none
def pxV (qual : Str) (params : Arguments) (body : List Stmt) (scope : Scope) : PxW := some (qual, params, .stmts body, scope, mainGlobals, ["__class__"], builtinsNs)
def pxB (file : Str) (x qual at_ : Str) (K : PySem.W.Frag) : Bool := let C := He.ga K x; let f := He.ma K C "__init__"
  (match K.lookup f with
    | some ⟨_, _, .func fd, _⟩ => (match fd.defaults, fd.code, fd.closure with
      | .none, .ref cda, [(_, cc)] => PySem.W.codeIn K (.ref cda) qual && ((match K.lookup cda with
          | some ⟨_, _, .fields vs, _⟩ => (match (vs[2]? : Option Value) with
            | some (.str z _) => file == z
            | _ => false)
          | _ => false) && (match K.lookup cc with
          | some ⟨_, _, .cell (some (.ref C')), _⟩ => decide (C' = C)
          | _ => false))
      | _, _, _ => false)
    | _ => false) && (oexB K C && (He.eqO (PySem.W.findIn K (.ref C) "__init__") (some (some (.ref f))) && (decide (PySem.W.typeIn K (.ref f) = some (.type "function")) && (He.eqO (PySem.W.findIn K (.ref C) at_) (some none) &&
    (decide (PySem.W.ks_superIn K C C "__init__" = some (some (.builtin "ValueError.__init__"))) && (decide (PySem.W.subIn K (.ref C) (.type "ValueError") = some true) && (decide (PySem.W.mroIn K C (.ref C) = some true) && (He.eqO (PySem.W.nsIn K cStatics "thirdparty.any") (some none) && He.eqO (PySem.W.nsIn K mainGlobals x) (some (some (.ref C)))))))))))
theorem pxB_ok {P : Program} {K : PySem.W.Frag} {x qual at_ : Str} {params : Arguments} {body : List Stmt} {scope : Scope} (e : pxW K x = pxV qual params body scope) (h : pxB P.main.file x qual at_ K = true) :
    PxC P K (He.ga K x) (He.ma K (He.ga K x) "__init__") at_ params body scope := by
  obtain ⟨q, h⟩ := He.ba h
  obtain ⟨h1, h⟩ := He.ba h
  obtain ⟨h2, h⟩ := He.ba h
  obtain ⟨h3, h⟩ := He.ba h
  obtain ⟨h4, h⟩ := He.ba h
  obtain ⟨h5, h⟩ := He.ba h
  obtain ⟨h6, h⟩ := He.ba h
  obtain ⟨h7, h⟩ := He.ba h
  obtain ⟨h8, h9⟩ := He.ba h
  refine ⟨?_, oexB_ok h1, He.eqO_ok h2, of_decide_eq_true h3, He.eqO_ok h4, of_decide_eq_true h5, of_decide_eq_true h6, of_decide_eq_true h7, He.eqO_ok h8⟩
  unfold pxW at e
  cases hl : K.lookup (He.ma K (He.ga K x) "__init__") with
  | none => rw [hl] at e; cases e
  | some o =>
    obtain ⟨oc, od, dt, osl⟩ := o
    rw [hl] at e q
    cases dt with
    | func fd =>
      obtain ⟨n1, n2, n3, n4, n5, n6, n7, n8, n9, n10, n11, n12, n13, n14, n15⟩ := fd
      have e2 : (some (n2, n3, n4, n5, n6, n7.map (·.1), n15) : PxW) = (some (qual, params, FuncBody.stmts body, scope, mainGlobals, ["__class__"], builtinsNs) : PxW) := e
      simp only [Option.some.injEq, Prod.mk.injEq] at e2
      obtain ⟨g1, g2, g3, g4, g5, g6, g7⟩ := e2
      subst g1 g2 g3 g4 g5 g7
      dsimp only at q
      split at q
      · rename_i cda c cc
        have ec : c = "__class__" := by simpa using g6
        subst ec
        obtain ⟨q1, q⟩ := He.ba q
        obtain ⟨q2, q3⟩ := He.ba q
        cases hc : K.lookup cda with
        | none => rw [hc] at q2; cases q2
        | some oc1 =>
          obtain ⟨c1, d1, dt1, s1⟩ := oc1
          rw [hc] at q2
          cases dt1 with
          | fields vs =>
            dsimp only at q2
            cases hv : vs[2]? with
            | none => rw [hv] at q2; cases q2
            | some z =>
              rw [hv] at q2
              cases z with
              | str file tf =>
                cases hcc : K.lookup cc with
                | none => rw [hcc] at q3; cases q3
                | some oc2 =>
                  obtain ⟨c2, d2, dt2, s2⟩ := oc2
                  rw [hcc] at q3
                  split at q3
                  · rename_i c2' d2' C' s2' z
                    obtain ⟨rfl, rfl, rfl, rfl⟩ : c2 = c2' ∧ d2 = d2' ∧ dt2 = .cell (some (.ref C')) ∧ s2 = s2' := by injection (Option.some.inj z) with a b c d; exact ⟨a, b, c, d⟩
                    have eC := of_decide_eq_true q3
                    subst eC
                    exact ⟨n1, n2, oc, od, n9, n10, n11, n12, cda, cc, n14, osl, c1, c2, d1, d2, s1, s2, vs, file, tf, rfl, q1, hc, hv, q2, hcc⟩
                  · cases q3
              | _ => cases q2
          | _ => cases q2
      · cases q
    | _ => cases e
theorem pxB_glo {P : Program} {K : PySem.W.Frag} {h : Heap} {mg : Str → Option Value} {x qual at_ : Str} (X : K.In h) (G : h.Ns mainGlobals mg) (c : pxB P.main.file x qual at_ K = true) : mg x = some (.ref (He.ga K x)) := by
  have c := (He.ba (He.ba (He.ba (He.ba (He.ba (He.ba (He.ba (He.ba (He.ba c).2).2).2).2).2).2).2).2).2
  exact PySem.W.mg_of X G (He.eqO_ok c)
abbrev AlX : Type := Bool × List FnW × List PxW
def obsX (chk : PySem.W.Frag → Bool) (fa : List Fa) (fn : List DefD) (px : List Str) (K : PySem.W.Frag) : AlX := (((fa.all fun f => f.ok K) && fn.all fun d => d.ok K) && ((K.lookup sysModules).isSome && chk K), fn.map (fun d => He.fnW K d.at_), px.map (pxW K))
def valX (fn : List DefD) (pv : List PxW) : AlX := (true, fn.map DefD.val, pv)
def SaysX (chk : PySem.W.Frag → Bool) (fa : List Fa) (fn : List DefD) (px : List Str) (pv : List PxW) (K : PySem.W.Frag) : Prop := obsX chk fa fn px K = valX fn pv
def asX (g : Addr → Option Obj) (n : Nat) : List Addr := He.asD g n ++ [cStatics, sysModules]
def obsXG (n : Nat) (chk : PySem.W.Frag → Bool) (fa : List Fa) (fn : List DefD) (px : List Str) (g : Addr → Option Obj) : AlX := obsX chk fa fn px (He.frG g (asX g n))
def hookX (n : Nat) (chk : PySem.W.Frag → Bool) (fa : List Fa) (fn : List DefD) (px : List Str) (pv : List PxW) : PySem.W.Hook where
  α := AlX
  obs := fun s => obsXG n chk fa fn px s.heap.get?
  val := fun _ => valX fn pv
  says := fun _ h => ∃ K : PySem.W.Frag, K.In h ∧ SaysX chk fa fn px pv K
  of := fun _ _ e => ⟨_, He.frG_in, e⟩
  keeps := fun _ _ _ ⟨K, hK, c⟩ k => ⟨K, PySem.W.Frag.In.keeps hK k, c⟩
theorem obsXG_eq {n : Nat} {chk : PySem.W.Frag → Bool} {fa : List Fa} {fn : List DefD} {px : List Str} {pv : List PxW} {g : Addr → Option Obj} {s : Shared} (h : ∀ a, g a = s.heap.get? a) : obsXG n chk fa fn px g = (hookX n chk fa fn px pv).obs s := by
  have e : g = s.heap.get? := funext h
  rw [e] <;> rfl
section
variable {chk : PySem.W.Frag → Bool} {fa : List Fa} {fn : List DefD} {px : List Str} {pv : List PxW} {K : PySem.W.Frag}
theorem SaysX.fst (c : SaysX chk fa fn px pv K) : (((fa.all fun f => f.ok K) && fn.all fun d => d.ok K) && ((K.lookup sysModules).isSome && chk K)) = true := congrArg (fun z : AlX => z.1) c
theorem SaysX.fact (c : SaysX chk fa fn px pv K) {f : Fa} (h : f ∈ fa) : f.ok K = true := List.all_eq_true.mp (He.ba (He.ba c.fst).1).1 f h
theorem SaysX.sys (c : SaysX chk fa fn px pv K) : (K.lookup sysModules).isSome = true := (He.ba (He.ba c.fst).2).1
theorem SaysX.chkd (c : SaysX chk fa fn px pv K) : chk K = true := (He.ba (He.ba c.fst).2).2
theorem SaysX.def_ (c : SaysX chk fa fn px pv K) (i : Nat) {d : DefD} (h : fn[i]? = some d := by rfl) : ∃ fd, FunD K d.name d.qual d.params d.body d.scope (d.dvs K) (d.kws K) (He.fAd K d.at_) fd := by
  have c2 := (He.ba (He.ba c.fst).1).2
  have e : fn.map (fun d => He.fnW K d.at_) = fn.map DefD.val := congrArg (fun z : AlX => z.2.1) c
  have e2 : (fn.map fun d => He.fnW K d.at_)[i]? = (fn.map DefD.val)[i]? := by rw [e]
  rw [List.getElem?_map, List.getElem?_map, h] at e2
  exact DefD.funD (Option.some.inj e2) (List.all_eq_true.mp c2 d (List.mem_of_getElem? h))
theorem SaysX.pxd (c : SaysX chk fa fn px pv K) (i : Nat) {x : Str} {v : PxW} (h : px[i]? = some x := by rfl) (hv : pv[i]? = some v := by rfl) : pxW K x = v := by
  have e : px.map (pxW K) = pv := congrArg (fun z : AlX => z.2.2) c
  have e2 : (px.map (pxW K))[i]? = pv[i]? := by rw [e]
  rw [List.getElem?_map, h, hv] at e2
  exact Option.some.inj e2
end
theorem sys_of {K : PySem.W.Frag} {base : Heap} (X : K.In base) (h : (K.lookup sysModules).isSome = true) : (base.get? sysModules).isSome = true := by
  obtain ⟨o, e⟩ := Option.isSome_iff_exists.mp h
  rw [X _ _ e] <;> rfl
theorem exf_of {C : Ct} {K : PySem.W.Frag} {h : Heap} {mg : Str → Option Value} (X : K.In h) (G : h.Ns mainGlobals mg) {n : Nat} {x : Str} (hC : C.xa n = He.ga K x) (c : (Fa.exc x).ok K = true) (c2 : (Fa.glo x).ok K = true) : ExF C K mg n x := by
  obtain ⟨h1, c⟩ := He.ba c
  obtain ⟨h2, c⟩ := He.ba c
  obtain ⟨h3, h4⟩ := He.ba c
  unfold ExF
  rw [hC]
  exact ⟨He.glo_ok X G c2, h1, h2, of_decide_eq_true h3, of_decide_eq_true h4⟩
theorem law_mi {l : PySem.W.OpenLaw} {n k : Nat} {q : Program} {loose : List Str} {XP : (Str → Option Value) → Heap → Prop} {YP : World → Heap → Prop} {d : DefRec} {x : Str}
    (hn : l.most = some n) (hn2 : n ≤ sizeLine) (hdf : d.params.defaults = []) (hr : Room k callerA)
    (F : ∀ (w : World) (mg : Str → Option Value) (h : Heap), YP w h → h.Ns mainGlobals mg →
      ∃ (K : PySem.W.Frag) (C : Ct) (g : DS), K.In h ∧ C.K = K ∧ C.T = [] ∧ (∀ base : Heap, K.In base → base.Ns mainGlobals mg → Has C l.prog w K mg base k d.name [x] 1 g) ∧
        ∀ ns : List Int, ns.length ≤ n → (∀ z ∈ ns, Builtin.Int.intBits z ≤ 1048576) → ∃ outs, g [.f (.s ns)] = some (.ok (.p (.bool true)) outs)) :
    PySem.W.WalkO q loose XP YP l.row.toRowW d [] (fun f vs => PySem.call f vs) := by
  refine Att.attach_callB hn hdf fun w s₀ s₁ mg mb fa o pm cd doc a vs ns GR Y ho hd hcd hmg hobj hints hlen hbits hg => ?_
  obtain ⟨K, C, g, KX, hCK, hCT, hHas, hgs⟩ := F w mg _ Y GR.T.g
  have rv := vals_ints hints
  have lenV := hints.length
  have core : ∀ H : Hp, Only H → SqL K H a (ns.map V.int) → HOk l.prog w H s₁.heap → (∀ b, H b ≠ none → b = a) → (H a ≠ none → K.lookup a = none) →
      codeAny (model l.prog w) callerA (.call (.ref fa) ⟨[.ref a], []⟩) (fun r s' => r = .ok (.ret (.bool true)) ∧ OldK s₁.heap s'.heap ∧ s'.os = s₁.os ∧ AllBare s'.gens) s₁ := by
    intro H hO hS hok hA hK
    have base_of : ∀ {b : Addr} {o : Obj}, s₁.heap.get? b = some o → H b = none → (hidT s₁.heap H).get? b = some o := fun e n => hidT_get e n
    have noA : ∀ {b : Addr} {o : Obj} {es : Array DictEntry} {ep : Nat}, s₁.heap.get? b = some o → o.data = .dict es ep → H b = none := fun {b o es ep} e d => by
      cases q : H b with
      | none => rfl
      | some u =>
        have e' : b = a := hA b (by rw [q]; simp)
        subst e'
        rw [hobj] at e; cases e
        have d' : Data.seq vs.toArray _ = Data.dict es ep := d
        cases d'
    have nsK : ∀ {b : Addr} {m : Str → Option Value}, s₁.heap.Ns b m → (hidT s₁.heap H).Ns b m := fun {b m} ⟨o, es, ep, e, d, r⟩ => ⟨o, es, ep, base_of e (noA e d), d, r⟩
    have hKb : K.In (hidT s₁.heap H) := fun b o e => base_of (KX b o e) (by
      cases q : H b with
      | none => rfl
      | some u =>
        have e' : b = a := hA b (by rw [q]; simp)
        subst e'
        rw [hK (by rw [q]; simp)] at e; cases e)
    have hM : Mod K mg (hidT s₁.heap H) := ⟨hKb, nsK GR.T.g, ⟨mb, nsK GR.T.b, GR.T.builtins⟩, let ⟨mc, h1, h2⟩ := GR.T.nolimit; ⟨mc, nsK h1, h2⟩⟩
    have e0 : Env0 l.prog w K mg (hidT s₁.heap H) callerA [] s₁ H := ⟨rfl, hM, fun b o e => of_hidT e, Nat.le_of_eq (hidT_size _ _), trivial, fun b hb => absurd (show b ∈ ([] : List Addr) from hb) (by simp), hok, .of_eq hg⟩
    obtain ⟨f, fd, hmf, hkp, hbd, hfn⟩ := hHas _ hKb (nsK GR.T.g)
    have ef : f = fa := by rw [hmf] at hmg; exact Value.ref.inj (Option.some.inj hmg)
    subst ef
    obtain ⟨outs, hgo⟩ := hgs ns hlen hbits
    have hb1 : BindsTo s₁ fd ⟨[.ref a], []⟩ [(x, .ref a)] := hbd s₁ [.ref a] KX rfl
    have hsp : spI C 1 g [.ref a] H (fun v _ => v = .bl true) fun _ _ _ => False := by
      refine ⟨H, [], [.f (.s ns)], rfl, ⟨fun _ _ h => h, fun b u h => ?_, List.nodup_nil, (fun _ z => nomatch z), fun p hp => by rw [hCT] at hp; cases hp⟩, ?_, ?_⟩
      · rcases hO b with z | ⟨ob, xs, z⟩
        · rw [h] at z; cases z
        · rw [h] at z; cases z
          exact fun _ z => by cases z
      · exact (ROs.cons (.f (.s (by rw [hCK]; exact hS))) .nil : ROs C H H [.ref a] [.f (.s ns)] ([] ++ []))
      · rw [hgo]
        intro G' H' v fv fq mv ok ro re
        cases ro with
        | f r =>
          cases r with
          | d r => cases r; rfl
    refine codeAny_mono (hfn.run callerA [] s₁ H ⟨[.ref a], []⟩ [.ref a] [.ref a] _ _ rfl hr e0 hb1 (.cons rfl .nil) hsp) fun r s' h => ?_
    cases r with
    | error e => obtain ⟨_, _, _, _, _, _, _, _, _, _, _, _, z⟩ := h; exact z.elim
    | ok fl =>
      cases fl with
      | next => exact False.elim h
      | brk => exact False.elim h
      | cont => exact False.elim h
      | ret u =>
        obtain ⟨v, H', os, bare, un, hok', r', q⟩ := h
        have q' : v = .bl true := q
        subst q'
        obtain rfl : u = Value.bool true := r'
        refine ⟨rfl, OldK.of_keep fun b o e => ?_, os, bare⟩
        cases q : H b with
        | none => exact un.keep b o e q (by intro z; exact absurd (show b ∈ ([] : List Addr) from z) (by simp)) (by simp)
        | some u =>
          rcases hO b with z | ⟨ob, xs, z⟩
          · rw [q] at z; cases z
          · have z2 := un.frzs b ob _ z
            obtain ⟨e1, _⟩ := hok b _ z
            obtain ⟨e2, _⟩ := hok' b _ z2
            rw [e] at e1; cases e1
            exact e2
  cases hk : K.lookup a with
  | some o =>
    have e := KX a o hk
    rw [hobj] at e
    cases e
    refine core (fun _ => none) (fun _ => .inl rfl) (.inr ⟨_, vs.toArray, _, hk, rfl, rfl, rfl, by rw [List.size_toArray, lenV]; exact Nat.le_trans hlen hn2, by simpa using rv⟩) (fun b u z => by have z' : (none : Option HO) = some u := z; cases z') (fun b z => absurd rfl z) fun z => absurd rfl z
  | none =>
    refine core (fun b => if b = a then some (.frz { cls := .type "list", data := .seq vs.toArray } (.lst (ns.map V.int))) else none) (fun b => ?_) (.inl (.inr ⟨{ cls := .type "list", data := .seq vs.toArray }, if_pos rfl⟩)) (fun b u z => ?_) (fun b z => ?_) fun _ => hk
    · by_cases hb : b = a
      · exact .inr ⟨_, _, if_pos hb⟩
      · exact .inl (if_neg hb)
    · by_cases hb : b = a
      · have z' := (if_pos hb).symm.trans z
        cases z'
        subst hb
        exact ⟨hobj, by rw [List.length_map]; exact Nat.le_trans hlen hn2, vs, _, rv, hobj⟩
      · have z' := (if_neg hb).symm.trans z
        cases z'
    · by_cases hb : b = a
      · exact hb
      · exact absurd (if_neg hb) z
end Mi
set_option Elab.async false
set_option linter.all false
set_option maxRecDepth 100000
set_option maxHeartbeats 4000000
namespace Mi
open PySem PySem.Spec PySem.Calls PyProof.Rows L2
def PxOf (C : Ct) (P : Program) (K : PySem.W.Frag) (mg : Str → Option Value) (n : Nat) (x : Str) : Prop :=
  mg x = some (.ref (C.xa n)) ∧ mg "super" = none ∧ (P.main.scope.names.lookup ("super" : Str)).isSome = false ∧ XfC K (C.xa n) ∧ PySem.W.findIn K (.ref (C.xa n)) "index" = some none ∧
    ∃ (f : Addr) (m1 : Str) (jc : Nat) (q0 q1 p0 p1 p2 p3 p4 p5 p6 p7 p8 p9 : Pos), PxC P K (C.xa n) f "index" (pxParams q0 q1) (pxBody m1 jc p0 p1 p2 p3 p4 p5 p6 p7 p8 p9) pxScope ∧ PlOk m1 jc p0 p1 p2 p3 p4
section
variable {X : Cx} {C : Ct} {W : WX} {ex e : Expr} {m : M O} {x : Str} {p pos kpos : Pos} {k n : Nat} {oa : Opd}
theorem pm_ownP (T : PxOf C X.prog X.K X.mg n x) (hr : Room k X.A) (hk : 1 ≤ k) (hg : Gl X x) (he : PE X ex (te C W m)) (h0 : starEach [ex] X.env = (false, eval ex X.env) :: starEach [] X.env := by rfl) (hdb : (x == ("__debug__" : Str)) = false := by decide) :
    PE X (.Call (.Name x p) [ex] [] pos) (te C W (mNewP n m)) := by
  obtain ⟨h1, h2, h3, h4, h5, f, m1, jc, q0, q1, p0, p1, p2, p3, p4, p5, p6, p7, p8, p9, h6, h7⟩ := T
  obtain ⟨k, rfl⟩ : ∃ j, k = j + 1 := ⟨k - 1, by omega⟩
  exact pm_newP h6 h2 h3 h7 hr hg h1 he h0 hdb
theorem pm_ownK (T : PxOf C X.prog X.K X.mg n x) (hr : Room k X.A) (hk : 1 ≤ k) (hg : Gl X x) (he : PE X ex (te C W m)) (hall : (backToKw pos (keywordEach [⟨some "index", ex, kpos⟩] X.env)).all (·.1.isSome) = true := by rfl)
    (hks : (backToKw pos (keywordEach [⟨some "index", ex, kpos⟩] X.env)).filterMap (·.1) = [("index" : Str)] := by rfl) (hdb : (x == ("__debug__" : Str)) = false := by decide)
    (hpl : ((backTo pos (starEach [] X.env)).any (·.1) || (backToKw pos (keywordEach [⟨some "index", ex, kpos⟩] X.env)).any (·.1.isNone)) = false := by rfl) :
    PE X (.Call (.Name x p) [] [⟨some "index", ex, kpos⟩] pos) (te C W (mNewP n m)) := by
  obtain ⟨h1, h2, h3, h4, h5, f, m1, jc, q0, q1, p0, p1, p2, p3, p4, p5, p6, p7, p8, p9, h6, h7⟩ := T
  obtain ⟨k, rfl⟩ : ∃ j, k = j + 1 := ⟨k - 1, by omega⟩
  exact pm_newPK h6 h2 h3 h7 hr hg h1 he hall hks hdb hpl
theorem pm_ownIx (T : PxOf C X.prog X.K X.mg n x) (ha : PE X e (tO C W oa)) (hb : attributeBase e "index" X.env (eval e X.env) = eval e X.env := by rfl) : PE X (.Attribute e "index" pos) (te C W (mAp (gIndex n) [oa])) := by
  obtain ⟨h1, h2, h3, h4, h5, _⟩ := T
  exact pm_index h4 h5 ha hb
end
def factsOf (glos frees : List Str) (excs : List (Nat × Str)) (gi : List (Str × Int)) (gs : List (Str × Str)) : List He.Fa :=
  glos.map .glo ++ (frees.map .free ++ (excs.map (fun p => .exc p.2) ++ (excs.map (fun p => .glo p.2) ++ (gi.map (fun p => .int p.1 p.2) ++ gs.map fun p => .str p.1 p.2))))
section
variable {glos frees : List Str} {excs : List (Nat × Str)} {gi : List (Str × Int)} {gs : List (Str × Str)} {chk : PySem.W.Frag → Bool} {fn : List He.DefD} {px : List Str} {pv : List PxW} {K : PySem.W.Frag} {h base : Heap} {mg : Str → Option Value}
theorem fa_glo (X : K.In h) (G : h.Ns mainGlobals mg) (c : SaysX chk (factsOf glos frees excs gi gs) fn px pv K) {x : Str} (hx : x ∈ glos) : mg x = some (.ref (He.ga K x)) :=
  He.glo_ok X G (c.fact (List.mem_append_left _ (List.mem_map_of_mem hx)))
theorem fa_free (X : K.In h) (G : h.Ns mainGlobals mg) (c : SaysX chk (factsOf glos frees excs gi gs) fn px pv K) {x : Str} (hx : x ∈ frees) : mg x = none :=
  He.free_ok X G (c.fact (List.mem_append_right _ (List.mem_append_left _ (List.mem_map_of_mem hx))))
theorem fx_of {C : Ct} {fr : List Str} (X : K.In h) (G : h.Ns mainGlobals mg) (c : SaysX chk (factsOf glos frees excs gi gs) fn px pv K) (Xb : K.In base) (hC : C.K = K) (hfr : ∀ x ∈ fr, x ∈ frees) (hx : ∀ p ∈ excs, C.xa p.1 = He.ga K p.2) :
    Fx C K mg base fr excs gi gs := by
  refine ⟨hC, fun x m => fa_free X G c (hfr x m), fun p m => exf_of X G (hx p m) (c.fact ?_) (c.fact ?_), fun p m => He.int_ok X G (c.fact ?_), fun p m => He.str_ok X G (c.fact ?_), sys_of Xb c.sys⟩
  · exact List.mem_append_right _ (List.mem_append_right _ (List.mem_append_left _ (List.mem_map_of_mem (f := fun p : Nat × Str => He.Fa.exc p.2) m)))
  · exact List.mem_append_right _ (List.mem_append_right _ (List.mem_append_right _ (List.mem_append_left _ (List.mem_map_of_mem (f := fun p : Nat × Str => He.Fa.glo p.2) m))))
  · exact List.mem_append_right _ (List.mem_append_right _ (List.mem_append_right _ (List.mem_append_right _ (List.mem_append_left _ (List.mem_map_of_mem (f := fun p : Str × Int => He.Fa.int p.1 p.2) m)))))
  · exact List.mem_append_right _ (List.mem_append_right _ (List.mem_append_right _ (List.mem_append_right _ (List.mem_append_right _ (List.mem_map_of_mem (f := fun p : Str × Str => He.Fa.str p.1 p.2) m)))))
end
theorem plOk_of {m1 : Str} {jc : Nat} {p0 p1 p2 p3 p4 : Pos} (hl : (p2.endLine == p4.line) = true := by rfl) : PlOk m1 jc p0 p1 p2 p3 p4 := fun env => by
  refine ⟨plainOf (.Call (.Name "super" p0) [] [] p1) env, ?_⟩
  unfold pxSup
  rw [arm_eval_Call]
  congr 1
  funext ov
  congr 1
  funext _
  exact mcall_line rfl hl
end Mi
set_option Elab.async false
set_option linter.all false
set_option maxRecDepth 100000
set_option maxHeartbeats 4000000
namespace La
open PySem PySem.Spec PyProof.Rows L2 Mi
def s_law_pen : DS := dSem 1 1 (piOf [0]) (
  sRet (mLst (dCons (mAp gList [.e (mAp gCut [.loc 0, .e (mNo), .e (mInt (mC (.int 60)))])]) (dCons (mC (.int 0)) (dCons (mC (.int 0)) (dNil))))))
def s_law_next : DS := dSem 6 1 (piOf [0]) (
  sSeq (sAsg (mAp gIx [.loc 0, .e (mC (.int 1))]) (gN 1)) (sSeq (sAsg (mAp gAdd [.loc 1, .e (mC (.int 1))]) (gSubL 0 (mC (.int 1)))) (sSeq (sAsg (mAp gAdd [.e (mAp gMul [.loc 1, .e (mC (.int 1051))]), .e (mC (.int 53))]) (gN 2)) (sSeq (sIf (mBl (mAp gNe [.e (mAp gIx [.loc 0, .e (mC (.int 0))]), .e (mLst (dNil))])) (sAsg (mAp gIx [.e (mAp gIx [.loc 0, .e (mC (.int 0))]), .e (mAp iMod [.e (mAp gInt [.loc 1]), .e (mAp gLen [.e (mAp gIx [.loc 0, .e (mC (.int 0))])])])]) (gN 2)) (sNil)) (sSeq (sIf (mAnd (mBl (mAp gLt [.loc 1, .e (mAp gLen [.e (mAp gIx [.loc 0, .e (mC (.int 0))])])])) (mBl (mAp iGe [.loc 2, .e (mAp iPow [.e (mC (.int 10)), .e (mC (.int 18))])]))) (sRet (mTake 2)) (sNil)) (sSeq (sAsg (mAp iMod [.e (mAp gInt [.e (mAp gAdd [.e (mAp gAdd [.e (mAp iMod [.e (mAp gInt [.loc 2]), .e (mC (.int 2147483587))]), .e (mAp gMul [.loc 1, .e (mC (.int 30103))])]), .e (mC (.int 79))])]), .e (mC (.int 2147483587))]) (gN 3)) (sSeq (sAsg (mAp iMod [.e (mAp gInt [.e (mAp gAdd [.e (mAp gAdd [.e (mAp gMul [.loc 3, .loc 3]), .e (mAp gMul [.loc 1, .e (mC (.int 70039))])]), .e (mC (.int 61))])]), .e (mC (.int 2147483563))]) (gN 4)) (sSeq (sAsg (mAp iMod [.e (mAp gInt [.e (mAp gAdd [.e (mAp gAdd [.e (mAp gMul [.loc 4, .loc 4]), .loc 3]), .e (mAp gMul [.e (mAp gMul [.loc 1, .loc 1]), .e (mC (.int 37))])])]), .e (mC (.int 2147483549))]) (gN 5)) (sRet (mAp gAdd [.e (mAp gMul [.e (mAp gAdd [.e (mAp gMul [.loc 5, .e (mC (.int 2147483587))]), .loc 4]), .e (mC (.int 2147483563))]), .loc 3]))))))))))
def s_law_draw : DS := dSem 3 2 (piOf [0, 1]) (
  sSeq (sIf (mBl (mAp gLt [.e (mAp gIx [.loc 0, .e (mC (.int 2))]), .loc 1])) (sAsg (mCall s_law_next [.loc 0]) (gSubL 0 (mC (.int 2)))) (sNil)) (sSeq (sAsg (mAp iMod [.e (mAp gInt [.e (mAp gIx [.loc 0, .e (mC (.int 2))])]), .loc 1]) (gN 2)) (sSeq (sAsg (mAp iDiv [.e (mAp gIx [.loc 0, .e (mC (.int 2))]), .loc 1]) (gSubL 0 (mC (.int 2)))) (sRet (mTake 2)))))
def pen (q : List Int) (i n : Int) : O := .w [.list (q.map .int), .int i, .int n]
theorem mul_at {i j : Int} (h : i.natAbs.log2 + j.natAbs.log2 < 1000000) : gMul [.f (.d (.int i)), .f (.d (.int j))] = some (.p (.int (i * j))) := by
  show (match iMul [.f (.d (.int i)), .f (.d (.int j))] with | some r => some r | none => _) = _
  have : iMul [.f (.d (.int i)), .f (.d (.int j))] = some (.p (.int (i * j))) := by
    show (match (if i.natAbs.log2 + j.natAbs.log2 < 1000000 then some (PyData.int (i * j)) else none) with | some d => some (O.p d) | none => none) = _
    rw [if_pos h]
  rw [this]
theorem add_at {i j : Int} : gAdd [.f (.d (.int i)), .f (.d (.int j))] = some (.p (.int (i + j))) := rfl
theorem lt_at {i j : Int} : gLt [.f (.d (.int i)), .f (.d (.int j))] = some (.p (.bool (decide (i < j)))) := rfl
theorem int_at {i : Int} : gInt [.f (.d (.int i))] = some (.p (.int i)) := rfl
theorem mod_at {i j : Int} (h : 0 < j) : iMod [.f (.d (.int i)), .f (.d (.int j))] = some (.p (.int (i % j))) := by
  show (match (if 0 < j then some (PyData.int (i % j)) else none) with | some d => some (O.p d) | none => none) = _
  rw [if_pos h]
theorem div_at {i j : Int} (h : 0 < j ∧ j < 1073741824) : iDiv [.f (.d (.int i)), .f (.d (.int j))] = some (.p (.int (i / j))) := by
  show (match (if 0 < j ∧ j < 1073741824 then some (PyData.int (i / j)) else none) with | some d => some (O.p d) | none => none) = _
  rw [if_pos h]
theorem log_le {i : Int} {k : Nat} (h : i.natAbs < 2 ^ k) (hk : 0 < k) : i.natAbs.log2 < k := by
  by_cases z : i.natAbs = 0
  · rw [z]; simpa using hk
  · exact (Nat.log2_lt z).mpr h
theorem qix_w {ps : List PyData} {k : Int} {x : PyData} (h : atI ps k = some x) : gIx [.w ps, .f (.d (.int k))] = some (.p x) := by
  have e : atI (ps.map F.d) k = some (.d x) := by
    unfold atI at h ⊢
    cases q : ixN ps.length k with
    | none => rw [q] at h; cases h
    | some j =>
      rw [q] at h
      rw [List.length_map, q]
      show (ps.map F.d)[j]? = _
      rw [List.getElem?_map]
      have h : ps[j]? = some x := h
      rw [h]; rfl
  show (match qIx [.w ps, .f (.d (.int k))] with | some r => some r | none => _) = _
  have : qIx [.w ps, .f (.d (.int k))] = some (.p x) := by
    show (match atI (ps.map F.d) k with | some x => some (O.f x) | none => none) = _
    rw [e]
  rw [this]
theorem draw_old {q : List Int} {i n u : Int} (hu : 0 < u) (hu2 : u < 1073741824) (h : u ≤ n) : s_law_draw [pen q i n, .p (.int u)] = some (.ok (.p (.int (n % u))) [some (pen q i (n / u)), some (.p (.int u))]) := by
  have h1 : decide (n < u) = false := decide_eq_false (by omega)
  have g2 : ∀ a : PyData, gIx [.w [a, .int i, .int n], .f (.d (.int 2))] = some (.p (.int n)) := fun a => rfl
  simp [s_law_draw, dSem, pen, sNil, sSeq, sIf, sAsg, sRet, mBl, mAp, mArgs, mC, rMap, lzGets, Lz.get, g2, O.fz, lt_at, int_at, mod_at hu, div_at ⟨hu, hu2⟩, h1, gSubL, slotOwn, O.own, subPut, oInt, mTake, gN, ixN, mkL, pys, dOuts, piOf, List.range, List.range.loop]
theorem draw_new {q : List Int} {i n u v : Int} (hu : 0 < u) (hu2 : u < 1073741824) (h : n < u) (hv : s_law_next [pen q i n] = some (.ok (.p (.int v)) [some (pen q (i + 1) n)])) :
    s_law_draw [pen q i n, .p (.int u)] = some (.ok (.p (.int (v % u))) [some (pen q (i + 1) (v / u)), some (.p (.int u))]) := by
  have h1 : decide (n < u) = true := decide_eq_true h
  have g2 : ∀ (a : PyData) (j m : Int), gIx [.w [a, .int j, .int m], .f (.d (.int 2))] = some (.p (.int m)) := fun a j m => rfl
  have hv' : s_law_next [.w [.list (q.map .int), .int i, .int n]] = some (.ok (.p (.int v)) [some (.w [.list (q.map .int), .int (i + 1), .int n])]) := hv
  simp [s_law_draw, dSem, pen, sNil, sSeq, sIf, sAsg, sRet, mBl, mAp, mArgs, mC, rMap, lzGets, Lz.get, g2, O.fz, lt_at, int_at, mod_at hu, div_at ⟨hu, hu2⟩, h1, gSubL, slotOwn, O.own, subPut, oInt, mTake, gN, ixN, mkL, pys, dOuts, piOf, List.range, List.range.loop, mCall, takeAll, Mi.putAll, hv']
theorem ints_plain : ∀ q : List Int, PyData.plainAll (q.map .int) = true
  | [] => rfl
  | _ :: q => ints_plain q
theorem ints_depth : ∀ q : List Int, PyData.depthAll (q.map .int) = 0
  | [] => rfl
  | x :: q => by
    show max (PyData.depth (.int x)) (PyData.depthAll (q.map .int)) = 0
    rw [ints_depth q]; rfl
theorem okd_ints (q : List Int) : okD (.list (q.map .int)) = true := by
  unfold okD
  have h1 : (PyData.list (q.map .int)).plain = true := ints_plain q
  have h2 : (PyData.list (q.map .int)).depth = PyData.depthAll (q.map .int) + 1 := rfl
  rw [h1, h2, ints_depth]; rfl
theorem ne_empty (q : List Int) : gNe [.f (.d (.list (q.map .int))), .w []] = some (.p (.bool (!q.isEmpty))) := by
  have : (okD (.list (q.map .int)) && okD (.list [])) = true := by rw [okd_ints]; rfl
  show (match (if (okD (.list (q.map .int)) && okD (.list [])) = true then some (PyData.bool (!PyData.eqv (.list (q.map .int)) (.list []))) else none) with | some d => some (O.p d) | none => none) = _
  rw [if_pos this]
  cases q <;> rfl
theorem ne_empty' (q : List Int) : gNe [.f (.d (.list (q.map .int))), .f (.d (.list []))] = some (.p (.bool (!q.isEmpty))) := ne_empty q
theorem len_ints (q : List Int) : gLen [.f (.d (.list (q.map .int)))] = some (.p (.int q.length)) := by
  show some (O.p (.int (((q.map PyData.int).map F.d).length : Nat))) = _
  rw [List.length_map, List.length_map]
theorem atI_nat {α : Type} {xs : List α} {k : Nat} {x : α} (h : xs[k]? = some x) : atI xs (k : Int) = some x := by
  have hk := (List.getElem?_eq_some_iff.mp h).1
  unfold atI ixN
  rw [if_pos (by omega), if_pos (by omega)]
  show xs[(k : Int).toNat]? = _
  rw [Int.toNat_natCast]; exact h
theorem ix_ints (q : List Int) (k : Nat) (hk : k < q.length) : gIx [.f (.d (.list (q.map .int))), .f (.d (.int (k : Int)))] = some (.p (.int q[k])) := by
  have e : atI ((q.map PyData.int).map F.d) (k : Int) = some (.d (.int q[k])) := atI_nat (by simp [hk])
  show (match (match atI ((q.map PyData.int).map F.d) (k : Int) with | some x => some (O.f x) | none => none) with | some r => some r | none => _) = _
  rw [e]
def cellAt (q : List Int) (i : Nat) : Int := if h : q.length = 0 then (i : Int) * 1051 + 53 else q[i % q.length]'(Nat.mod_lt _ (Nat.pos_of_ne_zero h))
theorem pow18 : iPow [.f (.d (.int 10)), .f (.d (.int 18))] = some (.p (.int 1000000000000000000)) := by rfl
theorem ge_at {i j : Int} : iGe [.f (.d (.int i)), .f (.d (.int j))] = some (.p (.bool (decide (j ≤ i)))) := rfl
theorem nat_log {x : Int} (h0 : 0 ≤ x) (h : x < 2 ^ 100) : x.natAbs.log2 < 100 := log_le (by omega) (by omega)
def small (x : Int) : Prop := 0 ≤ x ∧ x < 2 ^ 100
theorem mulS {x y : Int} (hx : small x) (hy : small y) : gMul [.f (.d (.int x)), .f (.d (.int y))] = some (.p (.int (x * y))) := mul_at (by
  have := nat_log hx.1 hx.2
  have := nat_log hy.1 hy.2
  omega)
theorem small_mod {x m : Int} (h : 0 < m) (h2 : m ≤ 2 ^ 100) : small (x % m) := ⟨Int.emod_nonneg _ (by omega), Int.lt_of_lt_of_le (Int.emod_lt_of_pos _ h) h2⟩
def nSome (c i : Int) : Int := (c % 2147483587 + i * 30103 + 79) % 2147483587
def nMore (s i : Int) : Int := (s * s + i * 70039 + 61) % 2147483563
def nHigh (s m i : Int) : Int := (m * m + s + i * i * 37) % 2147483549
def nNew (c i : Int) : Int := let s := nSome c i; let m := nMore s i; let h := nHigh s m i; (h * 2147483587 + m) * 2147483563 + s
theorem next_tail (q : List Int) (i : Nat) (n c : Int) (hi : i < 2 ^ 40) (x3 x4 x5 : Option O) :
    (sSeq (sAsg (mAp iMod [.e (mAp gInt [.e (mAp gAdd [.e (mAp gAdd [.e (mAp iMod [.e (mAp gInt [.loc 2]), .e (mC (.int 2147483587))]), .e (mAp gMul [.loc 1, .e (mC (.int 30103))])]), .e (mC (.int 79))])]), .e (mC (.int 2147483587))]) (gN 3)) (sSeq (sAsg (mAp iMod [.e (mAp gInt [.e (mAp gAdd [.e (mAp gAdd [.e (mAp gMul [.loc 3, .loc 3]), .e (mAp gMul [.loc 1, .e (mC (.int 70039))])]), .e (mC (.int 61))])]), .e (mC (.int 2147483563))]) (gN 4)) (sSeq (sAsg (mAp iMod [.e (mAp gInt [.e (mAp gAdd [.e (mAp gAdd [.e (mAp gMul [.loc 4, .loc 4]), .loc 3]), .e (mAp gMul [.e (mAp gMul [.loc 1, .loc 1]), .e (mC (.int 37))])])]), .e (mC (.int 2147483549))]) (gN 5)) (sRet (mAp gAdd [.e (mAp gMul [.e (mAp gAdd [.e (mAp gMul [.loc 5, .e (mC (.int 2147483587))]), .loc 4]), .e (mC (.int 2147483563))]), .loc 3])))))
      [some (pen q ((i : Int) + 1) n), some (.p (.int i)), some (.p (.int c)), x3, x4, x5] =
      some (.rt (.p (.int (nNew c i))) [some (pen q ((i : Int) + 1) n), some (.p (.int i)), some (.p (.int c)), some (.p (.int (nSome c i))), some (.p (.int (nMore (nSome c i) i))), some (.p (.int (nHigh (nSome c i) (nMore (nSome c i) i) i)))]) := by
  have si : small (i : Int) := ⟨by omega, by omega⟩
  have sS : small (nSome c i) := small_mod (by omega) (by omega)
  have sM : small (nMore (nSome c i) i) := small_mod (by omega) (by omega)
  have sH : small (nHigh (nSome c i) (nMore (nSome c i) i) i) := small_mod (by omega) (by omega)
  have sii : small ((i : Int) * i) := ⟨Int.mul_nonneg (by omega) (by omega), by
    have : (i : Int) * i ≤ 2 ^ 40 * 2 ^ 40 := Int.mul_le_mul (by omega) (by omega) (by omega) (by omega)
    omega⟩
  have hH : 0 ≤ nHigh (nSome c i) (nMore (nSome c i) i) i ∧ nHigh (nSome c i) (nMore (nSome c i) i) i < 2147483549 := ⟨Int.emod_nonneg _ (by omega), Int.emod_lt_of_pos _ (by omega)⟩
  have hM : 0 ≤ nMore (nSome c i) i ∧ nMore (nSome c i) i < 2147483563 := ⟨Int.emod_nonneg _ (by omega), Int.emod_lt_of_pos _ (by omega)⟩
  have m1 : gMul [.f (.d (.int (i : Int))), .f (.d (.int 30103))] = some (.p (.int (i * 30103))) := mulS si ⟨by omega, by omega⟩
  have m2 := mulS sS sS
  have m3 : gMul [.f (.d (.int (i : Int))), .f (.d (.int 70039))] = some (.p (.int (i * 70039))) := mulS si ⟨by omega, by omega⟩
  have m4 := mulS sM sM
  have m5 := mulS si si
  have m6 : gMul [.f (.d (.int ((i : Int) * i))), .f (.d (.int 37))] = some (.p (.int ((i : Int) * i * 37))) := mulS sii ⟨by omega, by omega⟩
  have m7 : gMul [.f (.d (.int (nHigh (nSome c i) (nMore (nSome c i) i) i))), .f (.d (.int 2147483587))] = some (.p (.int (nHigh (nSome c i) (nMore (nSome c i) i) i * 2147483587))) := mulS sH ⟨by omega, by omega⟩
  have m8 : gMul [.f (.d (.int (nHigh (nSome c i) (nMore (nSome c i) i) i * 2147483587 + nMore (nSome c i) i))), .f (.d (.int 2147483563))] = some (.p (.int ((nHigh (nSome c i) (nMore (nSome c i) i) i * 2147483587 + nMore (nSome c i) i) * 2147483563))) := mulS ⟨by omega, by omega⟩ ⟨by omega, by omega⟩
  have e1 : ∀ k : Int, iMod [.f (.d (.int k)), .f (.d (.int 2147483587))] = some (.p (.int (k % 2147483587))) := fun k => mod_at (by omega)
  have e2 : ∀ k : Int, iMod [.f (.d (.int k)), .f (.d (.int 2147483563))] = some (.p (.int (k % 2147483563))) := fun k => mod_at (by omega)
  have e3 : ∀ k : Int, iMod [.f (.d (.int k)), .f (.d (.int 2147483549))] = some (.p (.int (k % 2147483549))) := fun k => mod_at (by omega)
  have f1 : (c % 2147483587 + (i : Int) * 30103 + 79) % 2147483587 = nSome c i := rfl
  have f2 : (nSome c i * nSome c i + (i : Int) * 70039 + 61) % 2147483563 = nMore (nSome c i) i := rfl
  have f3 : (nMore (nSome c i) i * nMore (nSome c i) i + nSome c i + (i : Int) * i * 37) % 2147483549 = nHigh (nSome c i) (nMore (nSome c i) i) i := rfl
  have f4 : (nHigh (nSome c i) (nMore (nSome c i) i) i * 2147483587 + nMore (nSome c i) i) * 2147483563 + nSome c i = nNew c i := rfl
  simp only [sSeq, sAsg, sRet, mAp, mArgs, mC, rMap, lzGets, Lz.get, O.fz, add_at, int_at, gN, List.set, List.getElem?_cons_zero, List.getElem?_cons_succ, List.length_cons, List.length_nil, Option.join, e1, e2, e3, m1, m2, m3, m4, m5, m6, m7, m8, f1, f2, f3, f4, Nat.reduceAdd, Nat.reduceLT, if_true, Option.bind, id]
theorem nNew_pos (c : Int) (i : Nat) : 0 ≤ nNew c i := by
  have hS : 0 ≤ nSome c i := Int.emod_nonneg _ (by omega)
  have hM : 0 ≤ nMore (nSome c i) i := Int.emod_nonneg _ (by omega)
  have hH : 0 ≤ nHigh (nSome c i) (nMore (nSome c i) i) i := Int.emod_nonneg _ (by omega)
  show 0 ≤ (nHigh (nSome c i) (nMore (nSome c i) i) i * 2147483587 + nMore (nSome c i) i) * 2147483563 + nSome c i
  omega
def nextV (q : List Int) (i : Nat) : Int := if i < q.length ∧ 1000000000000000000 ≤ cellAt q i then cellAt q i else nNew (cellAt q i) i
theorem nextV_pos (q : List Int) (i : Nat) : 0 ≤ nextV q i := by
  unfold nextV
  split
  · rename_i h; omega
  · exact nNew_pos _ _
theorem seq_nx {m n : MS} {env e : Mi.Env} (h : m env = some (.nx e)) : sSeq m n env = n e := by
  show (match m env with | some (.nx e) => n e | r => r) = _
  rw [h]
theorem seq_rt {m n : MS} {env e : Mi.Env} {o : O} (h : m env = some (.rt o e)) : sSeq m n env = some (.rt o e) := by
  show (match m env with | some (.nx e) => n e | r => r) = _
  rw [h]
theorem sem_rt {N n : Nat} {P : Nat → Bool} {m : MS} {os : List O} {o : O} {e : Mi.Env} (h : m (os.map some ++ List.replicate (N - n) none) = some (.rt o e)) : dSem N n P m os = some (.ok o (dOuts P n e)) := by
  show (match m (os.map some ++ List.replicate (N - n) none) with | some (.nx e) => _ | some (.rt o e) => _ | some (.ex x e) => _ | _ => _) = _
  rw [h]
theorem next_ok (q : List Int) (i : Nat) (n : Int) (hi : i < 2 ^ 40) : s_law_next [pen q i n] = some (.ok (.p (.int (nextV q i))) [some (pen q ((i : Int) + 1) n)]) := by
  have si : small (i : Int) := ⟨by omega, by omega⟩
  have m0 : gMul [.f (.d (.int (i : Int))), .f (.d (.int 1051))] = some (.p (.int (i * 1051))) := mulS si ⟨by omega, by omega⟩
  have a1 : (sAsg (mAp gIx [.loc 0, .e (mC (.int 1))]) (gN 1)) [some (pen q i n), none, none, none, none, none] = some (.nx [some (pen q i n), some (.p (.int i)), none, none, none, none]) := rfl
  have a2 : (sAsg (mAp gAdd [.loc 1, .e (mC (.int 1))]) (gSubL 0 (mC (.int 1)))) [some (pen q i n), some (.p (.int i)), none, none, none, none] = some (.nx [some (pen q ((i : Int) + 1) n), some (.p (.int i)), none, none, none, none]) := rfl
  have a3 : (sAsg (mAp gAdd [.e (mAp gMul [.loc 1, .e (mC (.int 1051))]), .e (mC (.int 53))]) (gN 2)) [some (pen q ((i : Int) + 1) n), some (.p (.int i)), none, none, none, none] = some (.nx [some (pen q ((i : Int) + 1) n), some (.p (.int i)), some (.p (.int (i * 1051 + 53))), none, none, none]) := by
    simp only [sAsg, mAp, mArgs, mC, rMap, lzGets, Lz.get, O.fz, add_at, gN, List.set, List.getElem?_cons_zero, List.getElem?_cons_succ, List.length_cons, List.length_nil, Option.join, m0, Nat.reduceAdd, Nat.reduceLT, if_true, Option.bind, id]
  have g0 : ∀ (a : PyData) (j m : Int), gIx [.w [a, .int j, .int m], .f (.d (.int 0))] = some (.p a) := fun a j m => rfl
  have ne := ne_empty' q
  have ln := len_ints q
  have a4 : (sIf (mBl (mAp gNe [.e (mAp gIx [.loc 0, .e (mC (.int 0))]), .e (mLst (dNil))])) (sAsg (mAp gIx [.e (mAp gIx [.loc 0, .e (mC (.int 0))]), .e (mAp iMod [.e (mAp gInt [.loc 1]), .e (mAp gLen [.e (mAp gIx [.loc 0, .e (mC (.int 0))])])])]) (gN 2)) (sNil))
      [some (pen q ((i : Int) + 1) n), some (.p (.int i)), some (.p (.int (i * 1051 + 53))), none, none, none] = some (.nx [some (pen q ((i : Int) + 1) n), some (.p (.int i)), some (.p (.int (cellAt q i))), none, none, none]) := by
    unfold pen
    by_cases hq : q.length = 0
    · have eq : q = [] := List.eq_nil_of_length_eq_zero hq
      subst eq
      rfl
    · have ec : cellAt q i = q[i % q.length]'(Nat.mod_lt _ (Nat.pos_of_ne_zero hq)) := dif_neg hq
      have nb : (!q.isEmpty) = true := by
        cases q with
        | nil => exact absurd rfl hq
        | cons _ _ => rfl
      rw [nb] at ne
      have md : iMod [.f (.d (.int (i : Int))), .f (.d (.int (q.length : Int)))] = some (.p (.int ((i % q.length : Nat) : Int))) := by
        rw [mod_at (by omega), Int.natCast_emod]
      have ix := ix_ints q (i % q.length) (Nat.mod_lt _ (Nat.pos_of_ne_zero hq))
      have z0 : (0 ≤ sizeLine) = True := eq_true (Nat.zero_le _)
      simp only [sIf, mBl, sAsg, mAp, mArgs, mC, rMap, lzGets, Lz.get, O.fz, int_at, gN, List.set, List.getElem?_cons_zero, List.getElem?_cons_succ, List.length_cons, List.length_nil, Option.join, g0, mLst, dNil, mkL, pys, z0, ne, ln, md, ix, ec, Nat.reduceAdd, Nat.reduceLT, if_true, Option.bind, id]
  have env5 : ∀ x, x = [some (pen q ((i : Int) + 1) n), some (.p (.int i)), some (.p (.int (cellAt q i))), none, none, none] → True := fun _ _ => trivial
  have p18 := pow18
  have b1 : ∀ o : Bool, (mBl (mAp gLt [.loc 1, .e (mAp gLen [.e (mAp gIx [.loc 0, .e (mC (.int 0))])])])) [some (pen q ((i : Int) + 1) n), some (.p (.int i)), some (.p (.int (cellAt q i))), none, none, none] =
      some (.ok (decide ((i : Int) < (q.length : Int))) [some (pen q ((i : Int) + 1) n), some (.p (.int i)), some (.p (.int (cellAt q i))), none, none, none]) := fun _ => by
    unfold pen
    simp only [mBl, mAp, mArgs, mC, rMap, lzGets, Lz.get, O.fz, lt_at, List.getElem?_cons_zero, List.getElem?_cons_succ, Option.join, g0, ln, Option.bind, id]
  have b2 : (mBl (mAp iGe [.loc 2, .e (mAp iPow [.e (mC (.int 10)), .e (mC (.int 18))])])) [some (pen q ((i : Int) + 1) n), some (.p (.int i)), some (.p (.int (cellAt q i))), none, none, none] =
      some (.ok (decide (1000000000000000000 ≤ cellAt q i)) [some (pen q ((i : Int) + 1) n), some (.p (.int i)), some (.p (.int (cellAt q i))), none, none, none]) := by
    simp only [mBl, mAp, mArgs, mC, rMap, lzGets, Lz.get, O.fz, ge_at, List.getElem?_cons_zero, List.getElem?_cons_succ, Option.join, p18, Option.bind, id]
  have b3 : (mAnd (mBl (mAp gLt [.loc 1, .e (mAp gLen [.e (mAp gIx [.loc 0, .e (mC (.int 0))])])])) (mBl (mAp iGe [.loc 2, .e (mAp iPow [.e (mC (.int 10)), .e (mC (.int 18))])]))) [some (pen q ((i : Int) + 1) n), some (.p (.int i)), some (.p (.int (cellAt q i))), none, none, none] =
      some (.ok (decide (i < q.length ∧ 1000000000000000000 ≤ cellAt q i)) [some (pen q ((i : Int) + 1) n), some (.p (.int i)), some (.p (.int (cellAt q i))), none, none, none]) := by
    have b1 := b1 true
    by_cases h1 : i < q.length
    · have d1 : decide ((i : Int) < (q.length : Int)) = true := decide_eq_true (by omega)
      rw [d1] at b1
      simp only [mAnd, b1, b2, h1, true_and]
    · have d1 : decide ((i : Int) < (q.length : Int)) = false := decide_eq_false (by omega)
      rw [d1] at b1
      simp only [mAnd, b1, h1, false_and, decide_false]
  unfold s_law_next
  by_cases h : i < q.length ∧ 1000000000000000000 ≤ cellAt q i
  · have ev : nextV q i = cellAt q i := if_pos h
    have a5 : (sIf (mAnd (mBl (mAp gLt [.loc 1, .e (mAp gLen [.e (mAp gIx [.loc 0, .e (mC (.int 0))])])])) (mBl (mAp iGe [.loc 2, .e (mAp iPow [.e (mC (.int 10)), .e (mC (.int 18))])]))) (sRet (mTake 2)) (sNil)) [some (pen q ((i : Int) + 1) n), some (.p (.int i)), some (.p (.int (cellAt q i))), none, none, none] =
        some (.rt (.p (.int (cellAt q i))) [some (pen q ((i : Int) + 1) n), some (.p (.int i)), some (.p (.int (cellAt q i))), none, none, none]) := by
      rw [decide_eq_true h] at b3
      simp only [sIf, b3]
      rfl
    rw [ev]
    exact sem_rt (N := 6) (n := 1) (P := piOf [0]) (os := [pen q i n]) ((seq_nx a1).trans ((seq_nx a2).trans ((seq_nx a3).trans ((seq_nx a4).trans (seq_rt a5)))))
  · have ev : nextV q i = nNew (cellAt q i) i := if_neg h
    have a5 : (sIf (mAnd (mBl (mAp gLt [.loc 1, .e (mAp gLen [.e (mAp gIx [.loc 0, .e (mC (.int 0))])])])) (mBl (mAp iGe [.loc 2, .e (mAp iPow [.e (mC (.int 10)), .e (mC (.int 18))])]))) (sRet (mTake 2)) (sNil)) [some (pen q ((i : Int) + 1) n), some (.p (.int i)), some (.p (.int (cellAt q i))), none, none, none] =
        some (.nx [some (pen q ((i : Int) + 1) n), some (.p (.int i)), some (.p (.int (cellAt q i))), none, none, none]) := by
      rw [decide_eq_false h] at b3
      simp only [sIf, b3]
      rfl
    rw [ev]
    exact sem_rt (N := 6) (n := 1) (P := piOf [0]) (os := [pen q i n]) ((seq_nx a1).trans ((seq_nx a2).trans ((seq_nx a3).trans ((seq_nx a4).trans ((seq_nx a5).trans (next_tail q i n (cellAt q i) hi none none none))))))
theorem draw_ok (q : List Int) (i : Nat) (n u : Int) (hi : i < 2 ^ 40) (hn : 0 ≤ n) (hu : 0 < u) (hu2 : u < 1073741824) :
    ∃ (d : Int) (j : Nat) (m : Int), 0 ≤ d ∧ d < u ∧ i ≤ j ∧ j ≤ i + 1 ∧ 0 ≤ m ∧ s_law_draw [pen q i n, .p (.int u)] = some (.ok (.p (.int d)) [some (pen q j m), some (.p (.int u))]) := by
  by_cases h : n < u
  · exact ⟨nextV q i % u, i + 1, nextV q i / u, Int.emod_nonneg _ (by omega), Int.emod_lt_of_pos _ hu, by omega, by omega, Int.ediv_nonneg (nextV_pos q i) (by omega), draw_new hu hu2 h (next_ok q i n hi)⟩
  · exact ⟨n % u, i, n / u, Int.emod_nonneg _ (by omega), Int.emod_lt_of_pos _ hu, by omega, by omega, Int.ediv_nonneg hn (by omega), draw_old hu hu2 (by omega)⟩
theorem take_map {α β : Type} (f : α → β) (xs : List α) (k : Nat) : (xs.map f).take k = (xs.take k).map f := by simp
theorem pen_ok (ns : List Int) : s_law_pen [.f (.s ns)] = some (.ok (pen (ns.take 60) 0 0) [some (.f (.s ns))]) := by
  have hm : ∀ xs : List Int, pys ((xs.map fun n => F.d (.int n))) = some (xs.map .int) := fun xs => by
    have := pys_map (xs.map PyData.int)
    rw [List.map_map] at this
    exact this
  have hc : cutF (ns.map fun n => F.d (.int n)) none (some 60) = (ns.take 60).map fun n => F.d (.int n) := by
    unfold cutF
    show ((ns.map fun n => F.d (.int n)).drop 0).take (min 60 (ns.map fun n => F.d (.int n)).length - 0) = _
    rw [List.drop_zero, Nat.sub_zero, List.length_map]
    rw [← List.map_take]
    congr 1
    by_cases h : 60 ≤ ns.length
    · rw [Nat.min_eq_left h]
    · rw [Nat.min_eq_right (by omega), List.take_of_length_le (Nat.le_refl _), List.take_of_length_le (by omega)]
  have h1 : gCut [.f (.s ns), .f (.d .none), .f (.d (.int 60))] = some (.w ((ns.take 60).map .int)) := by
    show some (mkL (cutF (ns.map fun n => F.d (.int n)) none (some 60))) = _
    rw [hc]
    unfold mkL
    rw [hm]
  have h2 : gList [.f (.d (.list ((ns.take 60).map .int)))] = some (.w ((ns.take 60).map .int)) := by
    show some (mkL (((ns.take 60).map PyData.int).map F.d)) = _
    unfold mkL
    rw [pys_map]
  have h3 : (([F.d (.list ((ns.take 60).map .int)), .d (.int 0), .d (.int 0)] : List F).length ≤ sizeLine) = True := eq_true (by rw [sizeLine_eq]; show 3 ≤ 16777216; decide)
  unfold s_law_pen
  refine sem_rt (N := 1) (n := 1) (P := piOf [0]) (os := [.f (.s ns)]) (e := [some (.f (.s ns))]) ?_
  simp only [List.map_cons, List.map_nil, Nat.sub_self, List.replicate, List.append_nil, sRet, mLst, dCons, dNil, mAp, mArgs, mC, mNo, mInt, rMap, lzGets, Lz.get, O.fz, List.getElem?_cons_zero, Option.join, Option.bind, id, h1, h2, h3, if_true, mkL, pys]
  rfl
end La
set_option Elab.async false
set_option linter.all false
set_option maxRecDepth 100000
set_option maxHeartbeats 4000000
namespace La
open PySem PySem.Spec PyProof.Rows L2 Mi
def top (i : Nat) : Stmt := PySem.Challenge.pw_cavesweep_k26_new_errors.main.body.getD i (.Pass ⟨0, 0, 0, 0⟩)
def fuel : Nat := 1000000
def frees : List Str := ["ValueError", "int", "isinstance", "len", "list", "range", "repr"]
def excs : List (Nat × Str) := [(0, "CaveError"), (2, "CannotBe"), (3, "DuplicateName"), (4, "InvalidBook"), (5, "InvalidBool"), (6, "InvalidCave"), (7, "InvalidKind"), (8, "InvalidLabel"), (9, "InvalidLine"), (10, "InvalidLot"), (11, "InvalidName"), (12, "InvalidNumber"), (13, "InvalidOrder"), (14, "InvalidRoom"), (15, "InvalidRow"), (16, "InvalidScript"), (17, "InvalidSweep"), (18, "InvalidTree"), (19, "InvalidWay"), (20, "NothingToRedo"), (21, "NothingToUndo"), (22, "UnknownCave"), (23, "UnknownName")]
def gints : List (Str × Int) := []
def gstrs : List (Str × Str) := []
def xnames : List Str := ["CaveError", "ParseError", "CannotBe", "DuplicateName", "InvalidBook", "InvalidBool", "InvalidCave", "InvalidKind", "InvalidLabel", "InvalidLine", "InvalidLot", "InvalidName", "InvalidNumber", "InvalidOrder", "InvalidRoom", "InvalidRow", "InvalidScript", "InvalidSweep", "InvalidTree", "InvalidWay", "NothingToRedo", "NothingToUndo", "UnknownCave", "UnknownName"]
def ne : Nat := 24
def sbT : List (List Nat) := [[0], [0, 1], [0, 2], [0, 3], [0, 4], [0, 5], [0, 6], [0, 7], [0, 8], [0, 9], [0, 10], [0, 11], [0, 12], [0, 13], [0, 14], [0, 15], [0, 16], [0, 17], [0, 18], [0, 19], [0, 20], [0, 21], [0, 22], [0, 23]]
def sb (c j : Nat) : Bool := (sbT.getD c []).contains j
section
variable {C : Ct} {P : Program} {w : World} {K : PySem.W.Frag} {mg : Str → Option Value} {base : Heap}
theorem ok_law_pen {f : Addr} (Z : Fx C K mg base frees excs gints gstrs) (F : ∃ fd, FunD K "_law_pen" "_law_pen" (defArgs (top 26)) (defBody (top 26)) (defScope (top 26)) [] [] f fd) (gm : mg "_law_pen" = some (.ref f)) : Has C P w K mg base 1 "_law_pen" ["script"] 1 s_law_pen := by
  have S : FnScope ["script"] ["script"] (defScope (top 26)) := ⟨rfl, rfl, rfl, by decide +kernel, rfl, by decide +kernel, by decide +kernel⟩
  refine has_of F gm S rfl (by decide) (fun fd F => F.bindsN fun _ _ _ _ _ _ us hl => match us, hl with | [_], _ => rfl) fun cd A outer s H E hA hr => ?_
  exact (psm_one (psm_ret (pm_lst (pd_cons (pm_callTy (cm_list Z.hK) rfl (Z.free "list" (by decide)) (by decide +kernel) (pa_args_cons (pm_slice (slr_Cut Z.hK) (pv 0) pm_none (pm_some (pm_int)) part_no (part_int _)) pa_args_nil)) (pd_cons (pm_int) (pd_cons (pm_int) pd_nil))))))
theorem ok_law_next {f : Addr} (Z : Fx C K mg base frees excs gints gstrs) (F : ∃ fd, FunD K "_law_next" "_law_next" (defArgs (top 27)) (defBody (top 27)) (defScope (top 27)) [] [] f fd) (gm : mg "_law_next" = some (.ref f)) : Has C P w K mg base 1 "_law_next" ["pen"] 1 s_law_next := by
  have S : FnScope ["pen", "spot_here", "cell_here", "some", "more", "high"] ["pen"] (defScope (top 27)) := ⟨rfl, rfl, rfl, by decide +kernel, rfl, by decide +kernel, by decide +kernel⟩
  refine has_of F gm S rfl (by decide) (fun fd F => F.bindsN fun _ _ _ _ _ _ us hl => match us, hl with | [_], _ => rfl) fun cd A outer s H E hA hr => ?_
  exact (psm_cons (psm_asg (pm_ix (im_Ix Z.hK) (pv 0) (pm_int) (fun _ _ => rfl)) (pgm_name (i := 1) rfl S.nd rfl (by first | exact Or.inl rfl | exact Or.inr rfl)))
  (psm_cons (psm_asg (pm_op (om_Add Z.hK) (pv 1) (pm_int)) (pgm_sub (W := WD E) 0 (pv 0) (pm_int)))
  (psm_cons (psm_asg (pm_op (om_Add Z.hK) (pm_op (om_Mul Z.hK) (pv 1) (pm_int)) (pm_int)) (pgm_name (i := 2) rfl S.nd rfl (by first | exact Or.inl rfl | exact Or.inr rfl)))
  (psm_cons (psm_if (ptm_cmp (om_dNe Z.hK hr.units) (pm_ix (im_Ix Z.hK) (pv 0) (pm_int) (fun _ _ => rfl)) (pm_lst pd_nil) (nb _)) (psm_one (psm_asg (pm_ix (im_Ix Z.hK) (pm_ix (im_Ix Z.hK) (pv 0) (pm_int) (fun _ _ => rfl)) (pm_op (om_iMod) (pm_callTy cm_int rfl (Z.free "int" (by decide)) (by decide +kernel) (pa_args_cons (pv 1) pa_args_nil)) (pm_callB (cm_len Z.hK) rfl (Z.free "len" (by decide)) (by decide +kernel) (pa_args_cons (pm_ix (im_Ix Z.hK) (pv 0) (pm_int) (fun _ _ => rfl)) pa_args_nil))) (fun _ _ => rfl)) (pgm_name (i := 2) rfl S.nd rfl (by first | exact Or.inl rfl | exact Or.inr rfl)))) psm_nil)
  (psm_cons (psm_if (PW.pt (pwm_and (ptm_cmp (om_Lt Z.hK hr.units) (pv 1) (pm_callB (cm_len Z.hK) rfl (Z.free "len" (by decide)) (by decide +kernel) (pa_args_cons (pm_ix (im_Ix Z.hK) (pv 0) (pm_int) (fun _ _ => rfl)) pa_args_nil)) (nb _)) (pwm_and1 (ptm_cmp (om_iGe) (pv 2) (pm_op (om_iPow) (pm_int) (pm_int)) (nb _))))) (psm_one (psm_ret (pm_take 2 (pv 2)))) psm_nil)
  (psm_cons (psm_asg (pm_op (om_iMod) (pm_callTy cm_int rfl (Z.free "int" (by decide)) (by decide +kernel) (pa_args_cons (pm_op (om_Add Z.hK) (pm_op (om_Add Z.hK) (pm_op (om_iMod) (pm_callTy cm_int rfl (Z.free "int" (by decide)) (by decide +kernel) (pa_args_cons (pv 2) pa_args_nil)) (pm_int)) (pm_op (om_Mul Z.hK) (pv 1) (pm_int))) (pm_int)) pa_args_nil)) (pm_int)) (pgm_name (i := 3) rfl S.nd rfl (by first | exact Or.inl rfl | exact Or.inr rfl)))
  (psm_cons (psm_asg (pm_op (om_iMod) (pm_callTy cm_int rfl (Z.free "int" (by decide)) (by decide +kernel) (pa_args_cons (pm_op (om_Add Z.hK) (pm_op (om_Add Z.hK) (pm_op (om_Mul Z.hK) (pv 3) (pv 3)) (pm_op (om_Mul Z.hK) (pv 1) (pm_int))) (pm_int)) pa_args_nil)) (pm_int)) (pgm_name (i := 4) rfl S.nd rfl (by first | exact Or.inl rfl | exact Or.inr rfl)))
  (psm_cons (psm_asg (pm_op (om_iMod) (pm_callTy cm_int rfl (Z.free "int" (by decide)) (by decide +kernel) (pa_args_cons (pm_op (om_Add Z.hK) (pm_op (om_Add Z.hK) (pm_op (om_Mul Z.hK) (pv 4) (pv 4)) (pv 3)) (pm_op (om_Mul Z.hK) (pm_op (om_Mul Z.hK) (pv 1) (pv 1)) (pm_int))) pa_args_nil)) (pm_int)) (pgm_name (i := 5) rfl S.nd rfl (by first | exact Or.inl rfl | exact Or.inr rfl)))
  (psm_one (psm_ret (pm_op (om_Add Z.hK) (pm_op (om_Mul Z.hK) (pm_op (om_Add Z.hK) (pm_op (om_Mul Z.hK) (pv 5) (pm_int)) (pv 4)) (pm_int)) (pv 3))))))))))))
theorem ok_law_draw {f : Addr} (Z : Fx C K mg base frees excs gints gstrs) (h_law_next : Has C P w K mg base 1 "_law_next" ["pen"] 1 s_law_next) (F : ∃ fd, FunD K "_law_draw" "_law_draw" (defArgs (top 28)) (defBody (top 28)) (defScope (top 28)) [] [] f fd) (gm : mg "_law_draw" = some (.ref f)) : Has C P w K mg base 2 "_law_draw" ["pen", "under"] 2 s_law_draw := by
  have S : FnScope ["pen", "under", "digit"] ["pen", "under"] (defScope (top 28)) := ⟨rfl, rfl, rfl, by decide +kernel, rfl, by decide +kernel, by decide +kernel⟩
  refine has_of F gm S rfl (by decide) (fun fd F => F.bindsN fun _ _ _ _ _ _ us hl => match us, hl with | [_, _], _ => rfl) fun cd A outer s H E hA hr => ?_
  exact (psm_cons (psm_if (ptm_cmp (om_Lt Z.hK hr.units) (pm_ix (im_Ix Z.hK) (pv 0) (pm_int) (fun _ _ => rfl)) (pv 1) (nb _)) (psm_one (psm_asg (pm_fn h_law_next hr hA (takes_of rfl rfl rfl rfl) rfl (by decide) rfl (pa_args_cons (pv 0) pa_args_nil)) (pgm_sub (W := WD E) 0 (pv 0) (pm_int)))) psm_nil)
  (psm_cons (psm_asg (pm_op (om_iMod) (pm_callTy cm_int rfl (Z.free "int" (by decide)) (by decide +kernel) (pa_args_cons (pm_ix (im_Ix Z.hK) (pv 0) (pm_int) (fun _ _ => rfl)) pa_args_nil)) (pv 1)) (pgm_name (i := 2) rfl S.nd rfl (by first | exact Or.inl rfl | exact Or.inr rfl)))
  (psm_cons (psm_asg (pm_op (om_iDiv) (pm_ix (im_Ix Z.hK) (pv 0) (pm_int) (fun _ _ => rfl)) (pv 1)) (pgm_sub (W := WD E) 0 (pv 0) (pm_int)))
  (psm_one (psm_ret (pm_take 2 (pv 2)))))))
def x_law_classes_1 : MS := sAsg (mLst (dCons (mAp (gIsX ne fun c => sb c 7) [.loc 0]) (dCons (mAp (gIsX ne fun c => sb c 13) [.loc 0]) (dCons (mAp (gIsX ne fun c => sb c 14) [.loc 0]) (dNil))))) (gN 1)
def x_law_classes_2 : MS := sAsg (mAp gAdd [.loc 1, .e (mLst (dCons (mAp (gIsX ne fun c => sb c 15) [.loc 0]) (dCons (mAp (gIsX ne fun c => sb c 20) [.loc 0]) (dCons (mAp (gIsX ne fun c => sb c 2) [.loc 0]) (dNil)))))]) (gN 1)
def x_law_classes_3 : MS := sAsg (mAp gAdd [.loc 1, .e (mLst (dCons (mAp (gIsX ne fun c => sb c 12) [.loc 0]) (dCons (mAp (gIsX ne fun c => sb c 16) [.loc 0]) (dNil))))]) (gN 1)
def x_law_classes_4 : MS := sAsg (mAp gAdd [.loc 1, .e (mLst (dCons (mAp (gIsX ne fun c => sb c 21) [.loc 0]) (dCons (mAp (gIsX ne fun c => sb c 1) [.loc 0]) (dNil))))]) (gN 1)
def x_law_classes_5 : MS := sAsg (mAp gAdd [.loc 1, .e (mLst (dCons (mAp (gIsX ne fun c => sb c 3) [.loc 0]) (dCons (mAp (gIsX ne fun c => sb c 4) [.loc 0]) (dNil))))]) (gN 1)
def x_law_classes_6 : MS := sAsg (mAp gAdd [.loc 1, .e (mLst (dCons (mAp (gIsX ne fun c => sb c 5) [.loc 0]) (dCons (mAp (gIsX ne fun c => sb c 6) [.loc 0]) (dNil))))]) (gN 1)
def x_law_classes_7 : MS := sAsg (mAp gAdd [.loc 1, .e (mLst (dCons (mAp (gIsX ne fun c => sb c 8) [.loc 0]) (dCons (mAp (gIsX ne fun c => sb c 9) [.loc 0]) (dNil))))]) (gN 1)
def x_law_classes_8 : MS := sAsg (mAp gAdd [.loc 1, .e (mLst (dCons (mAp (gIsX ne fun c => sb c 10) [.loc 0]) (dCons (mAp (gIsX ne fun c => sb c 11) [.loc 0]) (dNil))))]) (gN 1)
def x_law_classes_9 : MS := sAsg (mAp gAdd [.loc 1, .e (mLst (dCons (mAp (gIsX ne fun c => sb c 17) [.loc 0]) (dCons (mAp (gIsX ne fun c => sb c 18) [.loc 0]) (dNil))))]) (gN 1)
def x_law_classes_10 : MS := sAsg (mAp gAdd [.loc 1, .e (mLst (dCons (mAp (gIsX ne fun c => sb c 19) [.loc 0]) (dCons (mAp (gIsX ne fun c => sb c 22) [.loc 0]) (dNil))))]) (gN 1)
def x_law_classes_11 : MS := sRet (mAp gAdd [.loc 1, .e (mLst (dCons (mAp (gIsX ne fun c => sb c 23) [.loc 0]) (dNil)))])
def s_law_classes : DS := dSem 2 1 (piOf [0]) (
  sSeq (x_law_classes_1) (sSeq (x_law_classes_2) (sSeq (x_law_classes_3) (sSeq (x_law_classes_4) (sSeq (x_law_classes_5) (sSeq (x_law_classes_6) (sSeq (x_law_classes_7) (sSeq (x_law_classes_8) (sSeq (x_law_classes_9) (sSeq (x_law_classes_10) (x_law_classes_11)))))))))))
theorem ok_law_classes {f : Addr} (Z : Fx C K mg base frees excs gints gstrs) (PX : PxOf C P K mg 1 "ParseError") (TX : XC C K ne sb) (F : ∃ fd, FunD K "_law_classes" "_law_classes" (defArgs (top 29)) (defBody (top 29)) (defScope (top 29)) [] [] f fd) (gm : mg "_law_classes" = some (.ref f)) : Has C P w K mg base 1 "_law_classes" ["caught"] 1 s_law_classes := by
  have S : FnScope ["caught", "found"] ["caught"] (defScope (top 29)) := ⟨rfl, rfl, rfl, by decide +kernel, rfl, by decide +kernel, by decide +kernel⟩
  refine has_of F gm S rfl (by decide) (fun fd F => F.bindsN fun _ _ _ _ _ _ us hl => match us, hl with | [_], _ => rfl) fun cd A outer s H E hA hr => ?_
  exact (psm_cons (psm_asg (pm_lst (pd_cons (pm_isX TX (j := 7) (by decide) (Z.free "isinstance" (by decide)) (Z.exc (7, "InvalidKind") (by decide)).1 rfl rfl (pv 0)) (pd_cons (pm_isX TX (j := 13) (by decide) (Z.free "isinstance" (by decide)) (Z.exc (13, "InvalidOrder") (by decide)).1 rfl rfl (pv 0)) (pd_cons (pm_isX TX (j := 14) (by decide) (Z.free "isinstance" (by decide)) (Z.exc (14, "InvalidRoom") (by decide)).1 rfl rfl (pv 0)) pd_nil)))) (pgm_name (i := 1) rfl S.nd rfl (by first | exact Or.inl rfl | exact Or.inr rfl)))
  (psm_cons (psm_asg (pm_op (om_Add Z.hK) (pv 1) (pm_lst (pd_cons (pm_isX TX (j := 15) (by decide) (Z.free "isinstance" (by decide)) (Z.exc (15, "InvalidRow") (by decide)).1 rfl rfl (pv 0)) (pd_cons (pm_isX TX (j := 20) (by decide) (Z.free "isinstance" (by decide)) (Z.exc (20, "NothingToRedo") (by decide)).1 rfl rfl (pv 0)) (pd_cons (pm_isX TX (j := 2) (by decide) (Z.free "isinstance" (by decide)) (Z.exc (2, "CannotBe") (by decide)).1 rfl rfl (pv 0)) pd_nil))))) (pgm_name (i := 1) rfl S.nd rfl (by first | exact Or.inl rfl | exact Or.inr rfl)))
  (psm_cons (psm_asg (pm_op (om_Add Z.hK) (pv 1) (pm_lst (pd_cons (pm_isX TX (j := 12) (by decide) (Z.free "isinstance" (by decide)) (Z.exc (12, "InvalidNumber") (by decide)).1 rfl rfl (pv 0)) (pd_cons (pm_isX TX (j := 16) (by decide) (Z.free "isinstance" (by decide)) (Z.exc (16, "InvalidScript") (by decide)).1 rfl rfl (pv 0)) pd_nil)))) (pgm_name (i := 1) rfl S.nd rfl (by first | exact Or.inl rfl | exact Or.inr rfl)))
  (psm_cons (psm_asg (pm_op (om_Add Z.hK) (pv 1) (pm_lst (pd_cons (pm_isX TX (j := 21) (by decide) (Z.free "isinstance" (by decide)) (Z.exc (21, "NothingToUndo") (by decide)).1 rfl rfl (pv 0)) (pd_cons (pm_isX TX (j := 1) (by decide) (Z.free "isinstance" (by decide)) PX.1 rfl rfl (pv 0)) pd_nil)))) (pgm_name (i := 1) rfl S.nd rfl (by first | exact Or.inl rfl | exact Or.inr rfl)))
  (psm_cons (psm_asg (pm_op (om_Add Z.hK) (pv 1) (pm_lst (pd_cons (pm_isX TX (j := 3) (by decide) (Z.free "isinstance" (by decide)) (Z.exc (3, "DuplicateName") (by decide)).1 rfl rfl (pv 0)) (pd_cons (pm_isX TX (j := 4) (by decide) (Z.free "isinstance" (by decide)) (Z.exc (4, "InvalidBook") (by decide)).1 rfl rfl (pv 0)) pd_nil)))) (pgm_name (i := 1) rfl S.nd rfl (by first | exact Or.inl rfl | exact Or.inr rfl)))
  (psm_cons (psm_asg (pm_op (om_Add Z.hK) (pv 1) (pm_lst (pd_cons (pm_isX TX (j := 5) (by decide) (Z.free "isinstance" (by decide)) (Z.exc (5, "InvalidBool") (by decide)).1 rfl rfl (pv 0)) (pd_cons (pm_isX TX (j := 6) (by decide) (Z.free "isinstance" (by decide)) (Z.exc (6, "InvalidCave") (by decide)).1 rfl rfl (pv 0)) pd_nil)))) (pgm_name (i := 1) rfl S.nd rfl (by first | exact Or.inl rfl | exact Or.inr rfl)))
  (psm_cons (psm_asg (pm_op (om_Add Z.hK) (pv 1) (pm_lst (pd_cons (pm_isX TX (j := 8) (by decide) (Z.free "isinstance" (by decide)) (Z.exc (8, "InvalidLabel") (by decide)).1 rfl rfl (pv 0)) (pd_cons (pm_isX TX (j := 9) (by decide) (Z.free "isinstance" (by decide)) (Z.exc (9, "InvalidLine") (by decide)).1 rfl rfl (pv 0)) pd_nil)))) (pgm_name (i := 1) rfl S.nd rfl (by first | exact Or.inl rfl | exact Or.inr rfl)))
  (psm_cons (psm_asg (pm_op (om_Add Z.hK) (pv 1) (pm_lst (pd_cons (pm_isX TX (j := 10) (by decide) (Z.free "isinstance" (by decide)) (Z.exc (10, "InvalidLot") (by decide)).1 rfl rfl (pv 0)) (pd_cons (pm_isX TX (j := 11) (by decide) (Z.free "isinstance" (by decide)) (Z.exc (11, "InvalidName") (by decide)).1 rfl rfl (pv 0)) pd_nil)))) (pgm_name (i := 1) rfl S.nd rfl (by first | exact Or.inl rfl | exact Or.inr rfl)))
  (psm_cons (psm_asg (pm_op (om_Add Z.hK) (pv 1) (pm_lst (pd_cons (pm_isX TX (j := 17) (by decide) (Z.free "isinstance" (by decide)) (Z.exc (17, "InvalidSweep") (by decide)).1 rfl rfl (pv 0)) (pd_cons (pm_isX TX (j := 18) (by decide) (Z.free "isinstance" (by decide)) (Z.exc (18, "InvalidTree") (by decide)).1 rfl rfl (pv 0)) pd_nil)))) (pgm_name (i := 1) rfl S.nd rfl (by first | exact Or.inl rfl | exact Or.inr rfl)))
  (psm_cons (psm_asg (pm_op (om_Add Z.hK) (pv 1) (pm_lst (pd_cons (pm_isX TX (j := 19) (by decide) (Z.free "isinstance" (by decide)) (Z.exc (19, "InvalidWay") (by decide)).1 rfl rfl (pv 0)) (pd_cons (pm_isX TX (j := 22) (by decide) (Z.free "isinstance" (by decide)) (Z.exc (22, "UnknownCave") (by decide)).1 rfl rfl (pv 0)) pd_nil)))) (pgm_name (i := 1) rfl S.nd rfl (by first | exact Or.inl rfl | exact Or.inr rfl)))
  (psm_one (psm_ret (pm_op (om_Add Z.hK) (pv 1) (pm_lst (pd_cons (pm_isX TX (j := 23) (by decide) (Z.free "isinstance" (by decide)) (Z.exc (23, "UnknownName") (by decide)).1 rfl rfl (pv 0)) pd_nil)))))))))))))))
def x_law_1 : MS := sAsg (mCall s_law_pen [.e (mTake 0)]) (gN 1)
def x_law_2 : MS := sAsg (mAp gIx [.e (mLst (dCons (mC (.str "")) (dCons (mC (.str "x")) (dCons (mC (.str "no such room")) (dCons (mAp gMul [.e (mC (.str "x")), .e (mC (.int 300))]) (dCons (mC (.str "99")) (dNil))))))), .e (mCall s_law_draw [.loc 1, .e (mC (.int 5))])]) (gN 3)
def x_law_3 : MS := sAsg (mAp gIx [.e (mLst (dCons (mC (.int 0)) (dCons (mC (.int 1)) (dCons (mC (.int 7)) (dCons (mAp iNeg [.e (mC (.int 3))]) (dCons (mAp iPow [.e (mC (.int 10)), .e (mC (.int 39))]) (dCons (mAp iNeg [.e (mAp iPow [.e (mC (.int 10)), .e (mC (.int 39))])]) (dNil)))))))), .e (mCall s_law_draw [.loc 1, .e (mC (.int 6))])]) (gN 4)
def x_law_4 : MS := sAsg (mLst (dCons (mNewX 7 (mTake 3)) (dCons (mNewX 13 (mTake 3)) (dCons (mNewX 14 (mTake 3)) (dCons (mNewX 15 (mTake 3)) (dCons (mNewX 20 (mTake 3)) (dNil))))))) (gN 5)
def x_law_5 : MS := sAsg (mAp gAdd [.loc 5, .e (mLst (dCons (mNewX 2 (mTake 3)) (dCons (mNewX 12 (mTake 3)) (dCons (mNewX 16 (mTake 3)) (dCons (mNewX 21 (mTake 3)) (dNil))))))]) (gN 5)
def x_law_6 : MS := sDrop (mMut 5 (dCons (mNewP 1 (mTake 4)) (dNil)) fAppend)
def x_law_7 : MS := sAsg (mAp gAdd [.loc 5, .e (mLst (dCons (mNewX 3 (mTake 3)) (dCons (mNewX 4 (mTake 3)) (dCons (mNewX 5 (mTake 3)) (dCons (mNewX 6 (mTake 3)) (dNil))))))]) (gN 5)
def x_law_8 : MS := sAsg (mAp gAdd [.loc 5, .e (mLst (dCons (mNewX 8 (mTake 3)) (dCons (mNewX 9 (mTake 3)) (dCons (mNewX 10 (mTake 3)) (dCons (mNewX 11 (mTake 3)) (dNil))))))]) (gN 5)
def x_law_9 : MS := sAsg (mAp gAdd [.loc 5, .e (mLst (dCons (mNewX 17 (mTake 3)) (dCons (mNewX 18 (mTake 3)) (dCons (mNewX 19 (mTake 3)) (dCons (mNewX 22 (mTake 3)) (dCons (mNewX 23 (mTake 3)) (dNil)))))))]) (gN 5)
def x_law_10 : MS := sIf (mBl (mAp gNe [.e (mCall s_law_classes [.e (mAp gIx [.loc 5, .loc 6])]), .e (mLc (mIt fRng1 [.e (mAp gLen [.loc 5])]) [7] (gN 7) (mYes) (mAp gEq [.loc 7, .loc 6]))])) (sRet (mC (.bool false))) (sNil)
def x_law_11 : MS := sIf (mOr (mNot (mTru (.e (mAp (gIsX ne fun c => sb c 0) [.e (mAp gIx [.loc 5, .loc 6])])))) (mNot (mTru (.e (mAp (gIsX ne fun _ => true) [.e (mAp gIx [.loc 5, .loc 6])]))))) (sRet (mC (.bool false))) (sNil)
def x_law_12 : MS := sForI (mIt fRng1 [.e (mAp gLen [.loc 5])]) (gN 6) (sSeq (x_law_10) (x_law_11))
def x_law_13 : MS := sIf (mBl (mAp gNe [.e (mAp gRepr [.e (mLst (dCons (mAp (gIndex 1) [.e (mAp gIx [.loc 5, .e (mC (.int 9))])]) (dCons (mAp (gIndex 1) [.e (mNewP 1 (mTake 4))]) (dNil))))]), .e (mAp gRepr [.e (mLst (dCons (mTake 4) (dCons (mTake 4) (dNil))))])])) (sRet (mC (.bool false))) (sNil)
def x_law_14 : MS := sForI (mIt fRng1 [.e (mC (.int 4))]) (gN 2) (sSeq (x_law_2) (sSeq (x_law_3) (sSeq (x_law_4) (sSeq (x_law_5) (sSeq (x_law_6) (sSeq (x_law_7) (sSeq (x_law_8) (sSeq (x_law_9) (sSeq (x_law_12) (x_law_13))))))))))
def s_law : DS := dSem 8 1 (piOf [0]) (
  sSeq (x_law_1) (sSeq (x_law_14) (sRet (mC (.bool true)))))
theorem ok_law {f : Addr} (Z : Fx C K mg base frees excs gints gstrs) (PX : PxOf C P K mg 1 "ParseError") (TX : XC C K ne sb) (h_law_pen : Has C P w K mg base 1 "_law_pen" ["script"] 1 s_law_pen) (h_law_draw : Has C P w K mg base 2 "_law_draw" ["pen", "under"] 2 s_law_draw) (h_law_classes : Has C P w K mg base 1 "_law_classes" ["caught"] 1 s_law_classes) (F : ∃ fd, FunD K "law" "law" (defArgs (top 30)) (defBody (top 30)) (defScope (top 30)) [] [] f fd) (gm : mg "law" = some (.ref f)) : Has C P w K mg base 3 "law" ["script"] 1 s_law := by
  have S : FnScope ["script", "pen", "lap", "word", "number_here", "found", "k", "j"] ["script"] (defScope (top 30)) := ⟨rfl, rfl, rfl, by decide +kernel, rfl, by decide +kernel, by decide +kernel⟩
  refine has_of F gm S rfl (by decide) (fun fd F => F.bindsN fun _ _ _ _ _ _ us hl => match us, hl with | [_], _ => rfl) fun cd A outer s H E hA hr => ?_
  exact (psm_cons (psm_asg (pm_fn h_law_pen hr hA (takes_of rfl rfl rfl rfl) rfl (by decide) rfl (pa_args_cons (pm_take 0 (pv 0)) pa_args_nil)) (pgm_name (i := 1) rfl S.nd rfl (by first | exact Or.inl rfl | exact Or.inr rfl)))
  (psm_cons (psm_for (passes_of rfl) rfl (pim_rng1 rfl (Z.free "range" (by decide)) (pm_int)) (pgm_name (i := 2) rfl S.nd rfl (by first | exact Or.inl rfl | exact Or.inr rfl)) (psm_cons (psm_asg (pm_ix (im_Ix Z.hK) (pm_lst (pd_cons (pm_str) (pd_cons (pm_str) (pd_cons (pm_str) (pd_cons (pm_op (om_Mul Z.hK) (pm_str) (pm_int)) (pd_cons (pm_str) pd_nil)))))) (pm_fn h_law_draw hr hA (takes_of rfl rfl rfl rfl) rfl (by decide) rfl (pa_args_cons (pv 1) (pa_args_cons (pm_int) pa_args_nil))) (fun _ _ => rfl)) (pgm_name (i := 3) rfl S.nd rfl (by first | exact Or.inl rfl | exact Or.inr rfl)))
  (psm_cons (psm_asg (pm_ix (im_Ix Z.hK) (pm_lst (pd_cons (pm_int) (pd_cons (pm_int) (pd_cons (pm_int) (pd_cons (pm_un un_iNeg (pm_int)) (pd_cons (pm_op (om_iPow) (pm_int) (pm_int)) (pd_cons (pm_un un_iNeg (pm_op (om_iPow) (pm_int) (pm_int))) pd_nil))))))) (pm_fn h_law_draw hr hA (takes_of rfl rfl rfl rfl) rfl (by decide) rfl (pa_args_cons (pv 1) (pa_args_cons (pm_int) pa_args_nil))) (fun _ _ => rfl)) (pgm_name (i := 4) rfl S.nd rfl (by first | exact Or.inl rfl | exact Or.inr rfl)))
  (psm_cons (psm_asg (pm_lst (pd_cons (pm_newX (Z.exc (7, "InvalidKind") (by decide)) rfl (pm_take 3 (pv 3))) (pd_cons (pm_newX (Z.exc (13, "InvalidOrder") (by decide)) rfl (pm_take 3 (pv 3))) (pd_cons (pm_newX (Z.exc (14, "InvalidRoom") (by decide)) rfl (pm_take 3 (pv 3))) (pd_cons (pm_newX (Z.exc (15, "InvalidRow") (by decide)) rfl (pm_take 3 (pv 3))) (pd_cons (pm_newX (Z.exc (20, "NothingToRedo") (by decide)) rfl (pm_take 3 (pv 3))) pd_nil)))))) (pgm_name (i := 5) rfl S.nd rfl (by first | exact Or.inl rfl | exact Or.inr rfl)))
  (psm_cons (psm_asg (pm_op (om_Add Z.hK) (pv 5) (pm_lst (pd_cons (pm_newX (Z.exc (2, "CannotBe") (by decide)) rfl (pm_take 3 (pv 3))) (pd_cons (pm_newX (Z.exc (12, "InvalidNumber") (by decide)) rfl (pm_take 3 (pv 3))) (pd_cons (pm_newX (Z.exc (16, "InvalidScript") (by decide)) rfl (pm_take 3 (pv 3))) (pd_cons (pm_newX (Z.exc (21, "NothingToUndo") (by decide)) rfl (pm_take 3 (pv 3))) pd_nil)))))) (pgm_name (i := 5) rfl S.nd rfl (by first | exact Or.inl rfl | exact Or.inr rfl)))
  (psm_cons (psm_expr (pm_mut 5 PySem.F.slot_list_append PySem.F.type_list_append mm_append (pv 5) (pd_cons (pm_ownP PX hr (by decide) rfl (pm_take 4 (pv 4))) pd_nil)))
  (psm_cons (psm_asg (pm_op (om_Add Z.hK) (pv 5) (pm_lst (pd_cons (pm_newX (Z.exc (3, "DuplicateName") (by decide)) rfl (pm_take 3 (pv 3))) (pd_cons (pm_newX (Z.exc (4, "InvalidBook") (by decide)) rfl (pm_take 3 (pv 3))) (pd_cons (pm_newX (Z.exc (5, "InvalidBool") (by decide)) rfl (pm_take 3 (pv 3))) (pd_cons (pm_newX (Z.exc (6, "InvalidCave") (by decide)) rfl (pm_take 3 (pv 3))) pd_nil)))))) (pgm_name (i := 5) rfl S.nd rfl (by first | exact Or.inl rfl | exact Or.inr rfl)))
  (psm_cons (psm_asg (pm_op (om_Add Z.hK) (pv 5) (pm_lst (pd_cons (pm_newX (Z.exc (8, "InvalidLabel") (by decide)) rfl (pm_take 3 (pv 3))) (pd_cons (pm_newX (Z.exc (9, "InvalidLine") (by decide)) rfl (pm_take 3 (pv 3))) (pd_cons (pm_newX (Z.exc (10, "InvalidLot") (by decide)) rfl (pm_take 3 (pv 3))) (pd_cons (pm_newX (Z.exc (11, "InvalidName") (by decide)) rfl (pm_take 3 (pv 3))) pd_nil)))))) (pgm_name (i := 5) rfl S.nd rfl (by first | exact Or.inl rfl | exact Or.inr rfl)))
  (psm_cons (psm_asg (pm_op (om_Add Z.hK) (pv 5) (pm_lst (pd_cons (pm_newX (Z.exc (17, "InvalidSweep") (by decide)) rfl (pm_take 3 (pv 3))) (pd_cons (pm_newX (Z.exc (18, "InvalidTree") (by decide)) rfl (pm_take 3 (pv 3))) (pd_cons (pm_newX (Z.exc (19, "InvalidWay") (by decide)) rfl (pm_take 3 (pv 3))) (pd_cons (pm_newX (Z.exc (22, "UnknownCave") (by decide)) rfl (pm_take 3 (pv 3))) (pd_cons (pm_newX (Z.exc (23, "UnknownName") (by decide)) rfl (pm_take 3 (pv 3))) pd_nil))))))) (pgm_name (i := 5) rfl S.nd rfl (by first | exact Or.inl rfl | exact Or.inr rfl)))
  (psm_cons (psm_for (passes_of rfl) rfl (pim_rng1 rfl (Z.free "range" (by decide)) (pm_callB (cm_len Z.hK) rfl (Z.free "len" (by decide)) (by decide +kernel) (pa_args_cons (pv 5) pa_args_nil))) (pgm_name (i := 6) rfl S.nd rfl (by first | exact Or.inl rfl | exact Or.inr rfl)) (psm_cons (psm_if (ptm_cmp (om_dNe Z.hK hr.units) (pm_fn h_law_classes hr hA (takes_of rfl rfl rfl rfl) rfl (by decide) rfl (pa_args_cons (pm_ix (im_Ix Z.hK) (pv 5) (pv 6) (fun _ _ => rfl)) pa_args_nil)) (pm_lc [("j", 7)] rfl rfl S.nd (pim_rng1 rfl (Z.free "range" (by decide)) (pm_callB (cm_len Z.hK) rfl (Z.free "len" (by decide)) (by decide +kernel) (pa_args_cons (pv 5) pa_args_nil))) (blkOk_by (by kernel_rfl)) (pc_out (vs := [7])) (fun _ _ _ _ _ => (pgm_name (i := 7) rfl S.nd rfl (by first | exact Or.inl rfl | exact Or.inr rfl))) (fun _ _ _ _ _ => ptm_nil) (fun _ _ _ _ _ => (pm_cmp (om_dEq Z.hK hr.units) (pv 7) (pv 6) (nb _)))) (nb _)) (psm_one (psm_ret (pm_bl))) psm_nil)
  (psm_one (psm_if (PW.pt (pwm_or (ptm_not (ptm_tru Z.hK.symm (pm_isX TX (j := 0) (by decide) (Z.free "isinstance" (by decide)) (Z.exc (0, "CaveError") (by decide)).1 rfl rfl (pm_ix (im_Ix Z.hK) (pv 5) (pv 6) (fun _ _ => rfl))))) (pwm_or1 (ptm_not (ptm_tru Z.hK.symm (pm_isV TX (Z.free "isinstance" (by decide)) (Z.free "ValueError" (by decide)) rfl rfl (pm_ix (im_Ix Z.hK) (pv 5) (pv 6) (fun _ _ => rfl)))))))) (psm_one (psm_ret (pm_bl))) psm_nil))))
  (psm_one (psm_if (ptm_cmp (om_dNe Z.hK hr.units) (pm_callB (cm_repr Z.hK hr.units hA Z.sys) rfl (Z.free "repr" (by decide)) (by decide +kernel) (pa_args_cons (pm_lst (pd_cons (pm_ownIx PX (pm_ix (im_Ix Z.hK) (pv 5) (pm_int) (fun _ _ => rfl))) (pd_cons (pm_ownIx PX (pm_ownK PX hr (by decide) rfl (pm_take 4 (pv 4)))) pd_nil))) pa_args_nil)) (pm_callB (cm_repr Z.hK hr.units hA Z.sys) rfl (Z.free "repr" (by decide)) (by decide +kernel) (pa_args_cons (pm_lst (pd_cons (pm_take 4 (pv 4)) (pd_cons (pm_take 4 (pv 4)) pd_nil))) pa_args_nil)) (nb _)) (psm_one (psm_ret (pm_bl))) psm_nil))))))))))))
  (psm_one (psm_ret (pm_bl)))))
end
end La
set_option Elab.async false
set_option linter.all false
set_option maxRecDepth 100000
set_option maxHeartbeats 0
namespace La
open PySem PySem.Spec PyProof.Rows L2 Mi
open He (Fa DefD)
def dd (x : Str) (i : Nat) : DefD := ⟨(x, none), x, x, defArgs (top i), defBody (top i), defScope (top i), [], []⟩
def fns : List DefD := [dd "_law_pen" 26, dd "_law_next" 27, dd "_law_draw" 28, dd "_law_classes" 29, dd "law" 30]
def glos : List Str := ["_law_pen", "_law_next", "_law_draw", "_law_classes", "law"]
def facts : List Fa := factsOf glos ("super" :: frees) excs gints gstrs
def ini : Stmt := (match top 2 with
  | .ClassDef _ _ _ b _ _ _ _ _ _ _ => b.getD 0 (.Pass ⟨0, 0, 0, 0⟩)
  | _ => .Pass ⟨0, 0, 0, 0⟩)
def chk (K : PySem.W.Frag) : Bool := true && (xcB K xnames sb && (pxB PySem.Challenge.pw_cavesweep_k26_new_errors.main.file "ParseError" "ParseError.__init__" "index" K && (xfB K (He.ga K "ParseError"))))
def pxs : List Str := ["ParseError"]
def pvs : List PxW := [pxV "ParseError.__init__" (defArgs ini) (defBody ini) (defScope ini)]
abbrev RR : PySem.W.OpenRow := PySem.W.OpenLaw.row PySem.Challenge.rw_cavesweep_k26_new_errors
abbrev hk : PySem.W.Hook := hookX 5 chk facts fns pxs pvs
def ob (s : PySem.W.SharedT) : AlX := obsXG 5 chk facts fns pxs (HandSHeadRun.getT s)
theorem ob_eq (s : PySem.W.SharedT) : ob s = hk.obs s.abs := obsXG_eq (HandSHeadRun.getT_eq s)
def loose : List Str := ["CaveError", "ParseError", "CannotBe", "DuplicateName", "InvalidBook", "InvalidBool", "InvalidCave", "InvalidKind", "InvalidLabel", "InvalidLine", "InvalidLot", "InvalidName", "InvalidNumber", "InvalidOrder", "InvalidRoom", "InvalidRow", "InvalidScript", "InvalidSweep", "InvalidTree", "InvalidWay", "NothingToRedo", "NothingToUndo", "UnknownCave", "UnknownName", "_law_pen", "_law_next", "_law_draw", "_law_classes"]
theorem run (w : World) : HandSHeadRun.RunEq RR (PySem.W.view RR.prog [30]) hk ob 100000 loose w := by
  intro os
  kernel_rfl
def ct (w : World) (K : PySem.W.Frag) : Ct := { P := PySem.Challenge.pw_cavesweep_k26_new_errors, w := w, K := K, ca := fun _ => 0, cf := fun _ => [], xa := fun c => He.ga K (xnames.getD c ""), fa := fun _ => 0, T := [] }
theorem has_law {w : World} {K : PySem.W.Frag} {h base : Heap} {mg : Str → Option Value} (X : K.In h) (G : h.Ns mainGlobals mg) (c : SaysX chk facts fns pxs pvs K) (Xb : K.In base) : Has (ct w K) PySem.Challenge.pw_cavesweep_k26_new_errors w K mg base 3 "law" ["script"] 1 s_law := by
  have Z : Fx (ct w K) K mg base frees excs gints gstrs := fx_of X G c Xb rfl (fun x hx => List.mem_cons_of_mem _ hx) fun p hp => by
    have q := (show ∀ p ∈ excs, xnames.getD p.1 "" = p.2 by decide +kernel) p hp
    show He.ga K (xnames.getD p.1 "") = He.ga K p.2
    rw [q]
  have C := c.chkd
  have TX : XC (ct w K) K ne sb := xcB_ok rfl (He.ba (He.ba C).2).1
  have T1 := (He.ba (He.ba (He.ba C).2).2).1
  have T2 := (He.ba (He.ba (He.ba C).2).2).2
  have T3 : PxC PySem.Challenge.pw_cavesweep_k26_new_errors K (He.ga K "ParseError") _ "index" _ _ _ := pxB_ok (c.pxd 0) T1
  have PX : PxOf (ct w K) PySem.Challenge.pw_cavesweep_k26_new_errors K mg 1 "ParseError" := ⟨pxB_glo X G T1, fa_free X G c List.mem_cons_self, by kernel_rfl, xfB_ok T2, T3.noAt, _, _, _, _, _, _, _, _, _, _, _, _, _, _, _, T3, plOk_of⟩
  have h_law_pen := ok_law_pen (P := PySem.Challenge.pw_cavesweep_k26_new_errors) (w := w) Z (c.def_ 0) (fa_glo X G c (by decide +kernel))
  have h_law_next := ok_law_next (P := PySem.Challenge.pw_cavesweep_k26_new_errors) (w := w) Z (c.def_ 1) (fa_glo X G c (by decide +kernel))
  have h_law_draw := ok_law_draw (P := PySem.Challenge.pw_cavesweep_k26_new_errors) (w := w) Z h_law_next (c.def_ 2) (fa_glo X G c (by decide +kernel))
  have h_law_classes := ok_law_classes (P := PySem.Challenge.pw_cavesweep_k26_new_errors) (w := w) Z PX TX (c.def_ 3) (fa_glo X G c (by decide +kernel))
  exact ok_law (P := PySem.Challenge.pw_cavesweep_k26_new_errors) (w := w) Z PX TX h_law_pen h_law_draw h_law_classes (c.def_ 4) (fa_glo X G c (by decide +kernel))
theorem holds (pure : ∀ ns : List Int, ns.length ≤ 63 → (∀ z ∈ ns, Builtin.Int.intBits z ≤ 1048576) → ∃ outs, s_law [.f (.s ns)] = some (.ok (.p (.bool true)) outs)) : PySem.Challenge.rw_cavesweep_k26_new_errors.Holds := by
  open PySem.W in
  w_on; o_law
  refine HandSHeadRun.head_any (r := PySem.W.OpenLaw.row PySem.Challenge.rw_cavesweep_k26_new_errors) (q := PySem.W.view RR.prog [30]) (H := hk) (ob := ob) (M := 100000) (loose := loose) (d := HandSHeadRun.topDef (RR).prog 30) (kwd := []) ob_eq
    (by kernel_rfl) (fun s => by kernel_rfl) run (by kernel_rfl) (by kernel_rfl) (by kernel_rfl) (by rfl) (by first | assumption | decide +kernel) (by decide +kernel) ⟨rfl, rfl, rfl, rfl, rfl, by decide +kernel⟩ ?hw ?hc
  case hw => w_witness2
  case hc =>
    refine law_mi (l := PySem.Challenge.rw_cavesweep_k26_new_errors) (n := 63) (k := 3) (x := "script") rfl (by decide) (by kernel_rfl) ⟨rfl, by decide, by decide⟩ ?F
    intro w mg h Y G
    obtain ⟨K, KX, c⟩ := Y
    exact ⟨K, ct w K, s_law, KX, rfl, rfl, fun base Xb _ => has_law KX G c Xb, fun ns h1 h2 => pure ns h1 h2⟩
end La
set_option Elab.async false
set_option linter.all false
set_option maxRecDepth 100000
set_option maxHeartbeats 4000000
namespace La
open PySem PySem.Spec PyProof.Rows L2 Mi
def words : List PyData := [.str "", .str "x", .str "no such room", .str ⟨(List.replicate 300 (Str.ofString "x").cps).foldl (· ++ ·) #[]⟩, .str "99"]
def nums : List Int := [0, 1, 7, -3, 10 ^ 39, -10 ^ 39]
def out1 : Option SR → Nat × Option O
  | some (.nx e) => (e.length, e.getD 1 none)
  | _ => (0, none)
theorem out1_nx {r : Option SR} {P : O} (h : out1 r = (8, some P)) : ∃ a x2 x3 x4 x5 x6 x7, r = some (.nx [a, some P, x2, x3, x4, x5, x6, x7]) := by
  cases r with
  | none => cases h
  | some z =>
    cases z with
    | nx e =>
      have h1 : e.length = 8 := congrArg Prod.fst h
      have h2 : e.getD 1 none = some P := congrArg Prod.snd h
      match e, h1 with
      | [a, b, c, d, e, f, g, i], _ =>
        have h2 : b = some P := h2
        subst h2
        exact ⟨_, _, _, _, _, _, _, rfl⟩
    | _ => cases h
def rest : MS := sSeq x_law_4 (sSeq x_law_5 (sSeq x_law_6 (sSeq x_law_7 (sSeq x_law_8 (sSeq x_law_9 (sSeq x_law_12 x_law_13))))))
theorem rest_0 (a x5 x6 x7 : Option O) (P : O) (lap : Int) : ∀ k : Nat, k < 6 → out1 (rest [a, some P, some (.p (.int lap)), some (.p (words.getD 0 .none)), some (.p (.int (nums.getD k 0))), x5, x6, x7]) = (8, some P)
  | 0, _ => by kernel_rfl
  | 1, _ => by kernel_rfl
  | 2, _ => by kernel_rfl
  | 3, _ => by kernel_rfl
  | 4, _ => by kernel_rfl
  | 5, _ => by kernel_rfl
  | k + 6, h => absurd h (by omega)
theorem rest_1 (a x5 x6 x7 : Option O) (P : O) (lap : Int) : ∀ k : Nat, k < 6 → out1 (rest [a, some P, some (.p (.int lap)), some (.p (words.getD 1 .none)), some (.p (.int (nums.getD k 0))), x5, x6, x7]) = (8, some P)
  | 0, _ => by kernel_rfl
  | 1, _ => by kernel_rfl
  | 2, _ => by kernel_rfl
  | 3, _ => by kernel_rfl
  | 4, _ => by kernel_rfl
  | 5, _ => by kernel_rfl
  | k + 6, h => absurd h (by omega)
theorem rest_2 (a x5 x6 x7 : Option O) (P : O) (lap : Int) : ∀ k : Nat, k < 6 → out1 (rest [a, some P, some (.p (.int lap)), some (.p (words.getD 2 .none)), some (.p (.int (nums.getD k 0))), x5, x6, x7]) = (8, some P)
  | 0, _ => by kernel_rfl
  | 1, _ => by kernel_rfl
  | 2, _ => by kernel_rfl
  | 3, _ => by kernel_rfl
  | 4, _ => by kernel_rfl
  | 5, _ => by kernel_rfl
  | k + 6, h => absurd h (by omega)
theorem rest_3 (a x5 x6 x7 : Option O) (P : O) (lap : Int) : ∀ k : Nat, k < 6 → out1 (rest [a, some P, some (.p (.int lap)), some (.p (words.getD 3 .none)), some (.p (.int (nums.getD k 0))), x5, x6, x7]) = (8, some P)
  | 0, _ => by kernel_rfl
  | 1, _ => by kernel_rfl
  | 2, _ => by kernel_rfl
  | 3, _ => by kernel_rfl
  | 4, _ => by kernel_rfl
  | 5, _ => by kernel_rfl
  | k + 6, h => absurd h (by omega)
theorem rest_4 (a x5 x6 x7 : Option O) (P : O) (lap : Int) : ∀ k : Nat, k < 6 → out1 (rest [a, some P, some (.p (.int lap)), some (.p (words.getD 4 .none)), some (.p (.int (nums.getD k 0))), x5, x6, x7]) = (8, some P)
  | 0, _ => by kernel_rfl
  | 1, _ => by kernel_rfl
  | 2, _ => by kernel_rfl
  | 3, _ => by kernel_rfl
  | 4, _ => by kernel_rfl
  | 5, _ => by kernel_rfl
  | k + 6, h => absurd h (by omega)
theorem rest_ok (a x5 x6 x7 : Option O) (P : O) (lap : Int) : ∀ j k : Nat, j < 5 → k < 6 → out1 (rest [a, some P, some (.p (.int lap)), some (.p (words.getD j .none)), some (.p (.int (nums.getD k 0))), x5, x6, x7]) = (8, some P)
  | 0, k, _, h => rest_0 a x5 x6 x7 P lap k h
  | 1, k, _, h => rest_1 a x5 x6 x7 P lap k h
  | 2, k, _, h => rest_2 a x5 x6 x7 P lap k h
  | 3, k, _, h => rest_3 a x5 x6 x7 P lap k h
  | 4, k, _, h => rest_4 a x5 x6 x7 P lap k h
  | j + 5, _, h, _ => absurd h (by omega)
theorem ix_lst {ps : List PyData} {k : Nat} {x : PyData} (h : ps[k]? = some x) : gIx [.f (.d (.list ps)), .f (.d (.int (k : Int)))] = some (.p x) := by
  have e : atI (ps.map F.d) (k : Int) = some (.d x) := atI_nat (by rw [List.getElem?_map, h]; rfl)
  show (match (match atI (ps.map F.d) (k : Int) with | some x => some (O.f x) | none => none) with | some r => some r | none => _) = _
  rw [e]
theorem word_ok (a x2 x3 x4 x5 x6 x7 : Option O) (P P' : O) (k : Nat) (hk : k < 5) (hd : s_law_draw [P, .p (.int 5)] = some (.ok (.p (.int (k : Int))) [some P', some (.p (.int 5))])) :
    x_law_2 [a, some P, x2, x3, x4, x5, x6, x7] = some (.nx [a, some P', x2, some (.p (words.getD k .none)), x4, x5, x6, x7]) := by
  have h1 : (mLst (dCons (mC (.str "")) (dCons (mC (.str "x")) (dCons (mC (.str "no such room")) (dCons (mAp gMul [.e (mC (.str "x")), .e (mC (.int 300))]) (dCons (mC (.str "99")) (dNil))))))) [a, some P, x2, x3, x4, x5, x6, x7] = some (.ok (.w words) [a, some P, x2, x3, x4, x5, x6, x7]) := by kernel_rfl
  have h2 := ix_lst (ps := words) (k := k) (x := words.getD k .none) (by rw [List.getD_eq_getElem?_getD, List.getElem?_eq_getElem hk]; rfl)
  unfold x_law_2
  simp only [sAsg, mAp, mArgs, h1, mC, rMap, mCall, takeAll, Mi.putAll, hd, lzGets, Lz.get, O.fz, gN, List.set, List.getElem?_cons_zero, List.getElem?_cons_succ, List.length_cons, List.length_nil, h2, Nat.reduceAdd, Nat.reduceLT, if_true]
theorem num_ok (a x2 x3 x4 x5 x6 x7 : Option O) (P P' : O) (k : Nat) (hk : k < 6) (hd : s_law_draw [P, .p (.int 6)] = some (.ok (.p (.int (k : Int))) [some P', some (.p (.int 6))])) :
    x_law_3 [a, some P, x2, x3, x4, x5, x6, x7] = some (.nx [a, some P', x2, x3, some (.p (.int (nums.getD k 0))), x5, x6, x7]) := by
  have h1 : (mLst (dCons (mC (.int 0)) (dCons (mC (.int 1)) (dCons (mC (.int 7)) (dCons (mAp iNeg [.e (mC (.int 3))]) (dCons (mAp iPow [.e (mC (.int 10)), .e (mC (.int 39))]) (dCons (mAp iNeg [.e (mAp iPow [.e (mC (.int 10)), .e (mC (.int 39))])]) (dNil)))))))) [a, some P, x2, x3, x4, x5, x6, x7] = some (.ok (.w (nums.map .int)) [a, some P, x2, x3, x4, x5, x6, x7]) := by kernel_rfl
  have h2 := ix_lst (ps := nums.map .int) (k := k) (x := .int (nums.getD k 0)) (by rw [List.getElem?_map, List.getD_eq_getElem?_getD, List.getElem?_eq_getElem hk]; rfl)
  unfold x_law_3
  simp only [sAsg, mAp, mArgs, h1, mC, rMap, mCall, takeAll, Mi.putAll, hd, lzGets, Lz.get, O.fz, gN, List.set, List.getElem?_cons_zero, List.getElem?_cons_succ, List.length_cons, List.length_nil, h2, Nat.reduceAdd, Nat.reduceLT, if_true]
def Iv (q : List Int) (b : Nat) (e : Mi.Env) : Prop := ∃ a i n x2 x3 x4 x5 x6 x7, e = [a, some (pen q (i : Nat) n), x2, x3, x4, x5, x6, x7] ∧ i ≤ b ∧ 0 ≤ n
theorem lap_ok (q : List Int) (b : Nat) (hb : b < 1000) (x : Int) (e : Mi.Env) (h : Iv q b e) : ∃ e1 e2, gN 2 (.p (.int x)) e = some e1 ∧ sSeq x_law_2 (sSeq x_law_3 rest) e1 = some (.nx e2) ∧ Iv q (b + 2) e2 := by
  obtain ⟨a, i, n, x2, x3, x4, x5, x6, x7, rfl, hi, hn⟩ := h
  refine ⟨[a, some (pen q i n), some (.p (.int x)), x3, x4, x5, x6, x7], ?_⟩
  obtain ⟨d, j, m, h1, h2, h3, h4, h5, hd⟩ := draw_ok q i n 5 (by omega) hn (by omega) (by omega)
  obtain ⟨k, rfl⟩ := Int.eq_ofNat_of_zero_le h1
  obtain ⟨d2, j2, m2, g1, g2, g3, g4, g5, hd2⟩ := draw_ok q j m 6 (by omega) h5 (by omega) (by omega)
  obtain ⟨k2, rfl⟩ := Int.eq_ofNat_of_zero_le g1
  obtain ⟨b0, y2, y3, y4, y5, y6, y7, hr⟩ := out1_nx (rest_ok a x5 x6 x7 (pen q j2 m2) x k k2 (by omega) (by omega))
  refine ⟨_, rfl, ?_, b0, j2, m2, y2, y3, y4, y5, y6, y7, rfl, by omega, g5⟩
  rw [seq_nx (word_ok a _ x3 x4 x5 x6 x7 _ _ k (by omega) hd), seq_nx (num_ok a _ _ x4 x5 x6 x7 _ _ k2 (by omega) hd2)]
  exact hr
theorem for_nx {g : Tg} {b : MS} {x : O} {xs : List O} {e e1 e2 : Mi.Env} (h : g x e = some e1) (h2 : b e1 = some (.nx e2)) : sFor g b (x :: xs) e = sFor g b xs e2 := by
  show (match g x e with | none => none | some e => match b e with | some (.nx e') => sFor g b xs e' | some (.ct e') => sFor g b xs e' | some (.bk e') => some (.nx e') | r => r) = _
  rw [h]
  show (match b e1 with | some (.nx e') => sFor g b xs e' | some (.ct e') => sFor g b xs e' | some (.bk e') => some (.nx e') | r => r) = _
  rw [h2]
theorem law_ok (ns : List Int) : ∃ outs, s_law [.f (.s ns)] = some (.ok (.p (.bool true)) outs) := by
  have h1 : x_law_1 [some (.f (.s ns)), none, none, none, none, none, none, none] = some (.nx [some (.f (.s ns)), some (pen (ns.take 60) (0 : Nat) 0), none, none, none, none, none, none]) := by
    have hp := pen_ok ns
    unfold x_law_1
    simp only [sAsg, mArgs, mTake, rMap, mCall, takeAll, Mi.putAll, hp, O.fz, gN, List.set, List.getElem?_cons_zero, List.length_cons, List.length_nil, Nat.reduceAdd, Nat.reduceLT, if_true]
    rfl
  have i0 : Iv (ns.take 60) 0 [some (.f (.s ns)), some (pen (ns.take 60) (0 : Nat) 0), none, none, none, none, none, none] := ⟨_, 0, 0, _, _, _, _, _, _, rfl, by omega, by omega⟩
  obtain ⟨e1, e2, a1, a2, i1⟩ := lap_ok _ 0 (by omega) 0 _ i0
  obtain ⟨e3, e4, b1, b2, i2⟩ := lap_ok _ _ (by omega) 1 _ i1
  obtain ⟨e5, e6, c1, c2, i3⟩ := lap_ok _ _ (by omega) 2 _ i2
  obtain ⟨e7, e8, d1, d2, i4⟩ := lap_ok _ _ (by omega) 3 _ i3
  have h2 : x_law_14 [some (.f (.s ns)), some (pen (ns.take 60) (0 : Nat) 0), none, none, none, none, none, none] = some (.nx e8) := by
    have hr : (mIt fRng1 [.e (mC (.int 4))]) [some (.f (.s ns)), some (pen (ns.take 60) (0 : Nat) 0), none, none, none, none, none, none] = some (.ok [.p (.int 0), .p (.int 1), .p (.int 2), .p (.int 3)] [some (.f (.s ns)), some (pen (ns.take 60) (0 : Nat) 0), none, none, none, none, none, none]) := by kernel_rfl
    unfold x_law_14
    simp only [sForI, hr]
    refine (for_nx a1 a2).trans ((for_nx b1 b2).trans ((for_nx c1 c2).trans ((for_nx d1 d2).trans ?_)))
    rfl
  refine ⟨dOuts (piOf [0]) 1 e8, ?_⟩
  unfold s_law
  refine sem_rt (N := 8) (n := 1) (P := piOf [0]) (os := [.f (.s ns)]) (e := e8) ?_
  show sSeq x_law_1 _ [some (.f (.s ns)), none, none, none, none, none, none, none] = _
  rw [seq_nx h1, seq_nx h2]
  rfl
end La
theorem PySem.Challenge.cw_cavesweep_k26_new_errors_holds : PySem.Challenge.rw_cavesweep_k26_new_errors.Holds :=
  La.holds fun ns _ _ => La.law_ok ns
