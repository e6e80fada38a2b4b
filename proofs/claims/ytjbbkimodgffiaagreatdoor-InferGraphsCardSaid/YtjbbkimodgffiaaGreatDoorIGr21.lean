/- Part 21: SxFar. Conditions: as each part says. -/
import Derived.Test.YtjbbkimodgffiaaGreatDoorIGr8
set_option linter.unusedVariables false
set_option linter.unusedSimpArgs false
namespace Go.Sx
def farL : List SV → Hps → (Nat → Hps → Prop) → Prop
 | c :: l, O, K => match c with
   | .ptr (.loc j) _ _ _ => match lkp j O with
     | some (.dfr []) => match l with
       | [] => Uo j O (K j)
       | _ :: _ => Uo j O fun O => farL l O K
     | _ => STOP "put off"
   | .val v => match l with
     | [.ptr (.loc j) _ _ _] => match lkp j O with
       | some (.dfr f) => NEED (v = farV f) (Uo j O (K j))
       | _ => STOP "put off"
     | _ => STOP "put off"
   | _ => STOP "put off"
 | [], _, _ => STOP "put off"
def Zca (fr : Fr) (O : Hps) (K : Nat → Hps → Prop) : Prop := match lkp DS fr with
 | some (.dfs l) => farL l O K
 | _ => STOP "put off"
abbrev farS (j : Nat) (f : List Nat) : SV := .dfs [.val (farV f), .ptr (.loc j) 0 0 0]
def frF (c : Nat) : Option (List Nat) → Fr → Fr
 | none, fr => fr
 | some f, fr => (DS, farS c f) :: fr
def opF (c : Nat) : Option (List Nat) → Hps → Hps
 | none, O => O
 | some f, O => (c, .dfr f) :: O
section
variable {M : Mx} {η : Env} {w : World} {O : Hps} {nx : Nat}
theorem HeapOK.same {O' : Hps} (H : HeapOK M η w O nx) (h : ∀ i h, lkp i O' = some h → lkp i O = some h) : HeapOK M η w O' nx :=
 ⟨H.pre, H.len, ⟨fun i g hi => H.own.1 i g (h i g hi), fun i j g g' k hi hj => H.own.2 i j g g' k (h i g hi) (h j g' hj)⟩, H.fr, H.sok⟩
theorem ZaG : ∀ (l : List SV) {ds : List Deferred} {O : Hps} {K : Nat → Hps → Prop}, DfL η l ds → HeapOK M η w O nx → farL l O K →
   ∃ c f O', K c O' ∧ HeapOK M η w ((c, .dfr f) :: O') nx ∧ DfL η [.val (farV f), .ptr (.loc c) 0 0 0] ds ∧ ∀ i h k, lkp i ((c, .dfr f) :: O') = some h → feet η w (.loc i) h k → ∃ i' h', lkp i' O = some h' ∧ feet η w (.loc i') h' k
 | [], _, _, _, _, _, h => h.out.elim
 | x :: l, ds, O, K, hd, H, h => by
   have fin : ∀ {j : Nat} {f : List Nat} {e : Ent}, lkp j O = some (.dfr f) → η[j]? = some (some e) → ds = farD f ++ [{ target := .collected e.g, args := #[] }] → K j (delK j O) →
       ∃ c f O', K c O' ∧ HeapOK M η w ((c, .dfr f) :: O') nx ∧ DfL η [.val (farV f), .ptr (.loc c) 0 0 0] ds ∧ ∀ i h k, lkp i ((c, .dfr f) :: O') = some h → feet η w (.loc i) h k → ∃ i' h', lkp i' O = some h' ∧ feet η w (.loc i') h' k := by
     intro j f e hj he hds hK
     have back : ∀ i h, lkp i ((j, Hp.dfr f) :: delK j O) = some h → lkp i O = some h := fun i h hi => by
       rw [Z7] at hi
       split at hi
       · rename_i hij; subst hij; rw [hj]; exact hi
       · rename_i hij; rw [← XB j O i hij]; exact hi
     refine ⟨j, f, delK j O, hK, H.same back, ?_, fun i h k hi hf => ⟨i, h, back i h hi, hf⟩⟩
     simp only [DfL]
     exact ⟨f, _, rfl, hds, e, [], he, rfl, rfl⟩
   unfold farL at h
   split at h
   · rename_i j _ _ _
     split at h
     case h_2 => exact h.out.elim
     rename_i hj
     simp only [DfL] at hd
     obtain ⟨e, r, h1, hds, h3⟩ := hd
     split at h
     · rw [Yf] at h
       simp only [DfL] at h3
       subst h3
       exact fin hj h1 hds h
     · rename_i y l'
       rw [Yf] at h
       have H1 := H.drop hj h1 (fun _ _ => rfl) rfl rfl rfl rfl (Nat.le_refl _)
       obtain ⟨c, f, O', g1, g2, g3, g4⟩ := ZaG (y :: l') h3 H1 h
       have hs := (H.own.1 j _ hj).1
       simp only [HpSat] at hs
       obtain ⟨e', h4, h5, h6, _⟩ := hs
       rw [h1] at h4
       injection h4 with h4
       injection h4 with h4
       subst h4
       have back : ∀ {i h}, lkp i (delK j O) = some h → i ≠ j ∧ lkp i O = some h := fun {i h} hi => by
         have hne : i ≠ j := fun e => by subst e; rw [Y1] at hi; cases hi
         exact ⟨hne, by rw [← XB j O i hne]; exact hi⟩
       have away : ∀ i h, lkp i ((c, Hp.dfr f) :: O') = some h → ¬ feet η w (.loc i) h e.g := fun i h hi hf => by
         obtain ⟨i', h', g5, g6⟩ := g4 i h _ hi hf
         obtain ⟨g7, g8⟩ := back g5
         exact H.own.2 i' j h' _ e.g g8 hj g7 g6 (feet.own h1)
       have hc0 : lkp c ((c, Hp.dfr f) :: O') = some (.dfr f) := by rw [Z7, if_pos rfl]
       have hsc := (g2.own.1 c _ hc0).1
       simp only [HpSat] at hsc
       obtain ⟨ec, k1, k2, k3, k4, k5⟩ := hsc
       have hfc : ∀ k, feet η w (.loc c) (.dfr (e.g :: f)) k → k = e.g ∨ feet η w (.loc c) (.dfr f) k := by
         rintro k ⟨e2, q1, q2⟩
         rcases q2 with q2 | q2
         · exact .inr ⟨e2, q1, .inl q2⟩
         · rcases List.mem_cons.1 q2 with q2 | q2
           · exact .inl q2
           · exact .inr ⟨e2, q1, .inr q2⟩
       have to : ∀ i h, lkp i ((c, Hp.dfr (e.g :: f)) :: O') = some h → (i = c ∧ h = .dfr (e.g :: f)) ∨ (i ≠ c ∧ lkp i ((c, Hp.dfr f) :: O') = some h) := fun i h hi => by
         rw [Z7] at hi
         split at hi
         · rename_i hij; injection hi with hi; exact .inl ⟨hij, hi.symm⟩
         · rename_i hij; exact .inr ⟨hij, by rw [Z7, if_neg hij]; exact hi⟩
       refine ⟨c, e.g :: f, O', g1, ⟨g2.pre, g2.len, ⟨fun i h hi => ?_, fun i i2 h h2 k hi hi2 hne f1 f2 => ?_⟩, g2.fr, g2.sok⟩, ?_, fun i h k hi hf => ?_⟩
       · rcases to i h hi with ⟨rfl, rfl⟩ | ⟨hne, hi⟩
         · refine ⟨?_, fun k hk => ?_⟩
           · simp only [HpSat]
             refine ⟨ec, k1, k2, k3, fun n hn => ?_, ?_⟩
             · rcases List.mem_cons.1 hn with rfl | hn
               · exact h6
               · exact k4 n hn
             · have k5 := List.nodup_cons.1 k5
               have a1 : e.g ∉ f := fun hm => away _ _ hc0 ⟨ec, k1, .inr hm⟩
               have a2 : ec.g ≠ e.g := fun hm => away _ _ hc0 ⟨ec, k1, .inl hm⟩
               exact List.nodup_cons.2 ⟨fun hm => (List.mem_cons.1 hm).elim a2 k5.1, List.nodup_cons.2 ⟨a1, k5.2⟩⟩
           · rcases hfc k hk with rfl | hk
             · exact (H.own.1 j _ hj).2 _ (feet.own h1)
             · exact (g2.own.1 _ _ hc0).2 k hk
         · exact g2.own.1 i h hi
       · rcases to i h hi with ⟨rfl, rfl⟩ | ⟨hn, hi⟩
         · rcases to i2 h2 hi2 with ⟨rfl, rfl⟩ | ⟨hn2, hi2⟩
           · exact hne rfl
           · rcases hfc k f1 with rfl | f1
             · exact away i2 h2 hi2 f2
             · exact g2.own.2 _ i2 _ h2 k hc0 hi2 hne f1 f2
         · rcases to i2 h2 hi2 with ⟨rfl, rfl⟩ | ⟨hn2, hi2⟩
           · rcases hfc k f2 with rfl | f2
             · exact away i h hi f1
             · exact g2.own.2 i _ h _ k hi hc0 hne f1 f2
           · exact g2.own.2 i i2 h h2 k hi hi2 hne f1 f2
       · simp only [DfL] at g3 ⊢
         obtain ⟨f', r', p1, p2, e3, r3, p3, p4, p5⟩ := g3
         obtain rfl := Z2u p1
         exact ⟨e.g :: f, r', rfl, by rw [hds, p2]; rfl, e3, r3, p3, p4, p5⟩
       · have on : ∀ i' h', lkp i' (delK j O) = some h' → feet η w (.loc i') h' k → ∃ i' h', lkp i' O = some h' ∧ feet η w (.loc i') h' k := fun i' h' a b => ⟨i', h', (back a).2, b⟩
         rcases to i h hi with ⟨rfl, rfl⟩ | ⟨hn, hi⟩
         · rcases hfc k hf with rfl | hf
           · exact ⟨j, _, hj, feet.own h1⟩
           · obtain ⟨i', h', a, b⟩ := g4 _ _ k hc0 hf; exact on i' h' a b
         · obtain ⟨i', h', a, b⟩ := g4 i h k hi hf; exact on i' h' a b
   · rename_i v
     split at h
     case h_2 => exact h.out.elim
     rename_i j _ _ _
     split at h
     case h_2 => exact h.out.elim
     rename_i f hj
     obtain ⟨hv, h⟩ := h
     rw [Yf] at h
     simp only [DfL] at hd
     obtain ⟨f', r', h1, hds, e, r, h2, rfl, rfl⟩ := hd
     obtain rfl := Z2u (hv.symm.trans h1)
     exact fin hj h2 hds h
   · exact h.out.elim
theorem LOOP.far {body : Code} {fr : Fr} {Q : Post} (hT : TabOK M.P M.C.T) (ks ko : List Nat) {X : Type} (P : X → Prop) (chg : X → Fr) (Ox : X → Hps) (c n0 : Nat) (μ : X → Nat) (x0 : X) (hP : P x0)
   (h : Z4P ks fr fun fr0 => Z20 ko O fun O0 => (appK (chg x0) fr0 fun fr' => Z2Q (Ox x0) O0 fun O' => GOES M fr O nx fr' O' n0) ∧
     ∀ x, P x → ∀ fo, appK (chg x) fr0 fun fr1 => Z2Q (Ox x) O0 fun O1 => run M body (frF c fo fr1) (opF c fo O1) n0 fun e fr O nx => match e with
       | .normal => ∃ x', P x' ∧ μ x' < μ x ∧ Zca fr O fun b O => ∀ f, appK (chg x') fr0 fun fr' => Z2Q (Ox x') O0 fun O' => GOES M ((DS, farS b f) :: fr) ((b, .dfr f) :: O) nx ((DS, farS c f) :: fr') ((c, .dfr f) :: O') n0
       | e => Q e fr O nx) : LOOP M body fr O nx Q := by
 obtain ⟨fr0, h⟩ := UE h
 obtain ⟨O0, h1, h2⟩ := VJ h
 simp only [WU, Z19] at h1 h2
 refine ⟨fun η a w hm => ?_⟩
 obtain ⟨η', hm0⟩ := h1.out η a w hm
 intro b k cs hro
 have hb : M.fence.fn b.fn := M.all _
 have hrm : M.fence.room (cs.length + 1 + 0) := M.room _
 have key : ∀ n x fo η a w, P x → μ x = n → Models M η (frF c fo (chg x ++ fr0)) (opF c fo (Ox x ++ O0)) n0 a w →
     ∃ e a' w', Z6q M Q e a' w' ∧ ArrivesIn (Machine.fenced M.P M.fence) M.P (lone (b.atR a (.code body :: .inLoop body :: k)) cs w) b k cs e a' w' := by
   intro n
   induction n using Nat.strongRecOn with
   | _ n ih =>
     intro x fo η a w hx hn hm
     obtain ⟨e, a', w', hq, harr⟩ := ZJ hT body (h2 x hx fo) η a w hm b (.inLoop body :: k) cs hro hb hrm
     cases e with
     | normal =>
       obtain ⟨η1, fr1, O1, nx1, hm1, x', hx', hlt, hf⟩ := hq
       unfold Zca at hf
       split at hf
       case h_2 => exact hf.out.elim
       rename_i l hl
       have hd := hm1.defers
       rw [hl] at hd
       obtain ⟨c1, f1, O2, g1, g2, g3, _⟩ := ZaG l hd hm1.heap hf
       have hm2 : Models M η1 ((DS, farS c1 f1) :: fr1) ((c1, .dfr f1) :: O2) nx1 a' w' := by
         refine ⟨g2, hm1.size, hm1.nds, by rw [Z7, if_pos rfl]; exact g3, hm1.ro, fun t sv ht => ?_⟩
         rw [Z7] at ht
         split at ht
         · injection ht with ht; subst ht; simp only [Den]
         · exact hm1.frame t sv ht
       obtain ⟨η2, hm3⟩ := (g1 f1).out η1 a' w' hm2
       obtain ⟨e2, a2, w2, hq2, harr2⟩ := ih (μ x') (hn ▸ hlt) x' (some f1) η2 a' w' hx' rfl hm3
       exact ⟨e2, a2, w2, hq2, .of_steps (StepsIn.trans harr (.one (fenced_calm hb hrm rfl) stepR_inLoop)) harr2⟩
     | exit id =>
       obtain ⟨η1, fr1, O1, nx1, hm1, hq⟩ := hq
       exact ⟨.exit id, a', w', ⟨η1, fr1, O1, nx1, hm1, hq⟩, .pass (x := .inLoop body) rfl (fun _ _ => .inl (by simp)) harr⟩
     | ret =>
       obtain ⟨η1, fr1, O1, nx1, hm1, hq⟩ := hq
       exact ⟨.ret, a', w', ⟨η1, fr1, O1, nx1, hm1, hq⟩, .pass (x := .inLoop body) rfl (fun _ _ => .inl (by simp)) harr⟩
     | goto l => exact hq.elim
     | panic ch => exact hq.elim
     | outgrown => exact hq.elim
 exact key _ x0 none η' a w hP rfl hm0
end
end Go.Sx
