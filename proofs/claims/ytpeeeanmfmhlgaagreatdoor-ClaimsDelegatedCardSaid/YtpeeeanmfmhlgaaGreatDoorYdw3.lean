/- Walks along the models. Printed by a program. -/
import Derived.Test.YtpeeeanmfmhlgaaGreatDoorYdw2
namespace Go.Proofs.YtpeeeanmfmhlgaaGreatDoor
open Go.RowKit
set_option linter.unusedVariables false
set_option maxRecDepth 20000
theorem k_token_CheckChain (l1 : (List S_api_Claims)) (r : (Int)) (H : m_token_CheckChain l1 = some r) : Fn Tryz.prog 26 [vlst (List.map C_api_Claims l1)] (resOf [vint r]) := by
  refine ⟨by kernel_rfl, pure_of (us := [vint r]) Tryz.func26 rfl rfl rfl rfl fun X hN => ?_⟩
  unfold m_token_CheckChain at H
  refine awp_seq ?_
  refine awp_plain hN rfl ?_
  refine seq_run0 (stp_assign (.dat _) rfl) ?_
  refine awp_seq ?_
  refine awp_seq ?_
  refine awp_plain hN rfl ?_
  refine seq_run0 (stp_move (.dat _) rfl) ?_
  refine seq_run0 (t_len tyU52 rfl) ?_
  refine seq_run0 (stp_gtr rfl rfl) ?_
  refine awp_cond _ rfl (fun h2 => ?_) (fun h2 => ?_)
  · replace H := ift h2 H
    refine awp_seq ?_
    refine awp_plain hN rfl ?_
    refine seq_run0 (stp_assign (.dat _) rfl) ?_
    refine awp_ret ?_
    cases H
    exact ⟨trivial, .inl rfl, trivial⟩
  · replace H := iff_ h2 H
    refine awp_skip ?_
    refine awp_seq ?_
    refine awp_seq ?_
    refine awp_plain hN rfl ?_
    refine seq_run0 (stp_move (.dat _) rfl) ?_
    refine seq_run0 (t_len tyU52 rfl) ?_
    refine seq_run0 (stp_move (.dat _) rfl) ?_
    refine awp_block ?_
    obtain ⟨h5, H⟩ := gif H
    refine awp_forL (fun (k3 : Nat) (s : Unit) => [(0, .dat (vlst (List.map C_api_Claims l1))), (11, .dat (vlst (List.map C_api_Claims l1))), (12, .dat (vint (l1.length : Int))), (13, .dat (vint (k3 : Int)))]) (fun (k3 : Nat) (s : Unit) => []) () H ⟨rfl, rfl, rfl, rfl, trivial⟩ trivial (fun _ _ => rfl) ?_ ?_
    · rintro ⟨⟩ H
      replace H : token_CheckChain_E1 l1 = some r := H
      unfold token_CheckChain_E1 at H
      refine awp_seq ?_
      refine awp_plain hN rfl ?_
      refine seq_run0 (stp_lss rfl rfl) ?_
      refine awp_seq ?_
      refine awp_cond _ rfl (fun h => (lt_t h).elim) (fun h => ?_)
      refine awp_exit ?_
      refine awp_seq ?_
      refine awp_seq ?_
      refine awp_plain hN rfl ?_
      refine seq_run0 (stp_move (.dat _) rfl) ?_
      refine seq_run0 (t_len tyU52 rfl) ?_
      refine seq_run0 (stp_eql rfl rfl) ?_
      refine awp_cond _ rfl (fun h7 => ?_) (fun h7 => ?_)
      · replace H := ift h7 H
        refine awp_seq ?_
        refine awp_plain hN rfl ?_
        refine seq_run0 (stp_assign (.dat _) rfl) ?_
        refine awp_ret ?_
        cases H
        exact ⟨trivial, .inl rfl, trivial⟩
      · replace H := iff_ h7 H
        refine awp_skip ?_
        refine awp_seq ?_
        refine awp_seq ?_
        refine awp_plain hN rfl ?_
        refine seq_run0 (stp_move (.dat _) rfl) ?_
        obtain ⟨x8, h9, H⟩ := bnd H
        refine seq_run0 (t_idx tyE52 (fun _ => rfl) rfl rfl h9) ?_
        refine seq_run0 (stp_fldE tyF42_3 rfl) ?_
        refine seq_run0 (stp_loadE1 tyS9 rfl (map_at h9) rfl) ?_
        refine seq_run0 (stp_sneq rfl rfl) ?_
        refine awp_cond _ rfl (fun h10 => ?_) (fun h10 => ?_)
        · replace H := ift h10 H
          refine awp_seq ?_
          refine awp_plain hN rfl ?_
          refine seq_run0 (stp_assign (.dat _) rfl) ?_
          refine awp_ret ?_
          cases H
          exact ⟨trivial, .inl rfl, trivial⟩
        · replace H := iff_ h10 H
          refine awp_skip ?_
          refine awp_joinE (ι := Unit) (fun i => []) (fun i => []) (fun i => token_CheckChain_J2 = some r) (fun i => rfl) ?_ ?_
          · skip
            refine awp_seq ?_
            refine awp_plain hN rfl ?_
            refine seq_run0 (stp_assign (.dat _) rfl) ?_
            refine awp_block ?_
            refine awp_iter (fun (s : Int) => [(0, .dat (vlst (List.map C_api_Claims l1))), (6, .dat (vint s))]) (fun (s : Int) => []) 1 H ⟨rfl, rfl, trivial⟩ trivial (fun _ => rfl) ?_
            rintro i11 q12 H hq12
            replace H : token_CheckChain_L3 l1 i11 = some q12 := H
            unfold token_CheckChain_L3 at H
            refine awp_seq ?_
            refine awp_seq ?_
            refine awp_plain hN rfl ?_
            refine seq_run0 (stp_move (.dat _) rfl) ?_
            refine seq_run0 (stp_move (.dat _) rfl) ?_
            refine seq_run0 (t_len tyU52 rfl) ?_
            refine seq_run0 (stp_lss rfl rfl) ?_
            refine awp_cond _ rfl (fun h13 => ?_) (fun h13 => ?_)
            · replace H := ift h13 H
              refine awp_skip ?_
              refine awp_seq ?_
              refine awp_block ?_
              refine awp_seq ?_
              refine awp_plain hN rfl ?_
              refine seq_run0 (stp_move (.dat _) rfl) ?_
              refine seq_run0 (stp_move (.dat _) rfl) ?_
              obtain ⟨r14, h15, H⟩ := bnd H
              refine seq_run0 (stp_call (k_token_chainFault l1 i11 r14 h15) ⟨.inl rfl, .inl rfl, trivial⟩) ?_
              refine seq_run0 (stp_assign (.dat _) rfl) ?_
              refine awp_seq ?_
              refine awp_plain hN rfl ?_
              refine seq_run0 (stp_move (.dat _) rfl) ?_
              refine seq_run0 (stp_neq rfl rfl) ?_
              refine awp_cond _ rfl (fun h16 => ?_) (fun h16 => ?_)
              · replace H := ift h16 H
                refine awp_seq ?_
                refine awp_plain hN rfl ?_
                refine seq_run0 (stp_move (.dat _) rfl) ?_
                refine seq_run0 (stp_assign (.dat _) rfl) ?_
                refine awp_ret ?_
                replace H := retl H hq12
                cases H
                exact ⟨trivial, .inl rfl, trivial⟩
              · replace H := iff_ h16 H
                refine awp_skip ?_
                refine awp_plain hN rfl ?_
                refine seq_run0 (stp_move (.dat _) rfl) ?_
                refine seq_run0 (stp_wrap _ rfl rfl (.inl ⟨rfl, rfl⟩)) ?_
                refine seq_run0 (stp_assign (.dat _) rfl) ?_
                exact ⟨_, backl H, ⟨rfl, rfl, trivial⟩, trivial⟩
            · replace H := iff_ h13 H
              refine awp_exit ?_
              replace H := outl H hq12
              exact ⟨(), H, trivial, trivial⟩
          · rintro ⟨⟩ H
            replace H : token_CheckChain_J2 = some r := H
            unfold token_CheckChain_J2 at H
            refine awp_seq ?_
            refine awp_plain hN rfl ?_
            refine seq_run0 (stp_assign (.dat _) rfl) ?_
            refine awp_ret ?_
            cases H
            exact ⟨trivial, .inl rfl, trivial⟩
    · rintro k3 x6 ⟨⟩ q4 h17 h18 H hq4
      replace H : token_CheckChain_L1 k3 x6 = some q4 := H
      unfold token_CheckChain_L1 at H
      refine awp_seq ?_
      refine awp_plain hN rfl ?_
      refine seq_run0 (stp_lss rfl rfl) ?_
      refine awp_seq ?_
      refine awp_cond _ rfl (fun h => ?_) (fun h => (lt_f h17 h).elim)
      refine awp_skip ?_
      refine awp_seq ?_
      refine awp_block ?_
      refine awp_seq ?_
      refine awp_plain hN rfl ?_
      refine seq_run0 (t_idx tyE52 (fun _ => rfl) rfl rfl h18) ?_
      refine seq_run0 (stp_loadEA tyS42 rfl (map_at h18) rfl) ?_
      refine seq_run2 (stp_alloc 1 tyZ42 rfl) rfl ?_
      refine seq_run2 (stp_storeW tyS42 rfl rfl rfl rfl) rfl ?_
      refine awp_seq ?_
      refine awp_plain hN rfl ?_
      refine seq_run1 (stp_loadA tyS42 rfl rfl rfl) rfl ?_
      obtain ⟨r19, h20, H⟩ := bnd H
      refine seq_run0 (stp_call (k_token_CheckClaims x6 r19 h20) ⟨.inl rfl, trivial⟩) ?_
      refine seq_run0 (stp_assign (.dat _) rfl) ?_
      refine awp_seq ?_
      refine awp_plain hN rfl ?_
      refine seq_run0 (stp_move (.dat _) rfl) ?_
      refine seq_run0 (stp_neq rfl rfl) ?_
      refine awp_cond _ rfl (fun h21 => ?_) (fun h21 => ?_)
      · replace H := ift h21 H
        refine awp_seq ?_
        refine awp_plain hN rfl ?_
        refine seq_run0 (stp_move (.dat _) rfl) ?_
        refine seq_run0 (stp_assign (.dat _) rfl) ?_
        refine awp_ret ?_
        replace H := retl H hq4
        cases H
        exact ⟨trivial, .inl rfl, trivial⟩
      · replace H := iff_ h21 H
        refine awp_skip ?_
        refine awp_plain hN rfl ?_
        refine seq_run0 (stp_add rfl rfl (by omega)) ?_
        refine seq_run0 (stp_move (.dat _) rfl) ?_
        exact ⟨_, backl H, ⟨rfl, rfl, rfl, rfl, trivial⟩, trivial⟩
theorem k_gateref2_ChainFault_1 (o1 : S_api_Claims) (c2 : S_api_Claims) (r : (Bool)) (H : m_gateref2_ChainFault_1 o1 c2 = some r) : Fn Tryz.prog 55 [vagg (C_api_Claims o1), vcell [[vstr c2.Id, vstr c2.Subject, vstr c2.Issuer, vstr c2.Parent, vlst (List.map C_string c2.Audience), vlst (List.map C_string c2.Scopes), vint c2.From, vint c2.To]] 0 0] (resOf [vbool r]) := by
  refine ⟨by kernel_rfl, pure_of (us := [vbool r]) Tryz.func55 rfl rfl rfl rfl fun X hN => ?_⟩
  unfold m_gateref2_ChainFault_1 at H
  refine awp_seq ?_
  refine awp_plain hN rfl ?_
  refine seq_run2 (stp_boxA 1 rfl) rfl ?_
  refine seq_run0 (stp_assign (.dat _) rfl) ?_
  refine awp_seq ?_
  refine awp_plain hN rfl ?_
  refine seq_run0 (stp_fldP tyF42_0 rfl) ?_
  refine seq_run1 (stp_load1 tyS9 rfl rfl) rfl ?_
  refine seq_run0 (stp_fldE tyF42_0 rfl) ?_
  refine seq_run0 (stp_loadE1 tyS9 rfl rfl rfl) ?_
  refine seq_run0 (stp_seql rfl rfl) ?_
  refine seq_run0 (stp_assign (.dat _) rfl) ?_
  refine awp_ret ?_
  cases H
  exact ⟨trivial, .inl rfl, trivial⟩
theorem k_gateref2_ChainFault (v1 : (List S_api_Claims)) (r : (Int)) (H : m_gateref2_ChainFault v1 = some r) : Fn Tryz.prog 27 [vlst (List.map C_api_Claims v1)] (resOf [vint r]) := by
  refine ⟨by kernel_rfl, pure_of (us := [vint r]) Tryz.func27 rfl rfl rfl rfl fun X hN => ?_⟩
  unfold m_gateref2_ChainFault at H
  refine awp_seq ?_
  refine awp_plain hN rfl ?_
  refine seq_run0 (stp_assign (.dat _) rfl) ?_
  refine awp_seq ?_
  refine awp_seq ?_
  refine awp_plain hN rfl ?_
  refine seq_run0 (stp_move (.dat _) rfl) ?_
  refine seq_run0 (t_len tyU52 rfl) ?_
  refine seq_run0 (stp_gtr rfl rfl) ?_
  refine awp_cond _ rfl (fun h2 => ?_) (fun h2 => ?_)
  · replace H := ift h2 H
    refine awp_seq ?_
    refine awp_plain hN rfl ?_
    refine seq_run0 (stp_assign (.dat _) rfl) ?_
    refine awp_ret ?_
    cases H
    exact ⟨trivial, .inl rfl, trivial⟩
  · replace H := iff_ h2 H
    refine awp_skip ?_
    refine awp_seq ?_
    refine awp_seq ?_
    refine awp_plain hN rfl ?_
    refine seq_run0 (stp_move (.dat _) rfl) ?_
    refine seq_run0 (t_len tyU52 rfl) ?_
    refine seq_run0 (stp_move (.dat _) rfl) ?_
    refine awp_block ?_
    obtain ⟨h5, H⟩ := gif H
    refine awp_forL (fun (k3 : Nat) (s : Unit) => [(0, .dat (vlst (List.map C_api_Claims v1))), (12, .dat (vlst (List.map C_api_Claims v1))), (13, .dat (vint (v1.length : Int))), (14, .dat (vint (k3 : Int)))]) (fun (k3 : Nat) (s : Unit) => []) () H ⟨rfl, rfl, rfl, rfl, trivial⟩ trivial (fun _ _ => rfl) ?_ ?_
    · rintro ⟨⟩ H
      replace H : gateref2_ChainFault_E1 v1 = some r := H
      unfold gateref2_ChainFault_E1 at H
      refine awp_seq ?_
      refine awp_plain hN rfl ?_
      refine seq_run0 (stp_lss rfl rfl) ?_
      refine awp_seq ?_
      refine awp_cond _ rfl (fun h => (lt_t h).elim) (fun h => ?_)
      refine awp_exit ?_
      refine awp_seq ?_
      refine awp_seq ?_
      refine awp_plain hN rfl ?_
      refine seq_run0 (stp_move (.dat _) rfl) ?_
      refine seq_run0 (t_len tyU52 rfl) ?_
      refine seq_run0 (stp_eql rfl rfl) ?_
      refine awp_cond _ rfl (fun h7 => ?_) (fun h7 => ?_)
      · replace H := ift h7 H
        refine awp_seq ?_
        refine awp_plain hN rfl ?_
        refine seq_run0 (stp_assign (.dat _) rfl) ?_
        refine awp_ret ?_
        cases H
        exact ⟨trivial, .inl rfl, trivial⟩
      · replace H := iff_ h7 H
        refine awp_skip ?_
        refine awp_seq ?_
        refine awp_seq ?_
        refine awp_plain hN rfl ?_
        refine seq_run0 (stp_move (.dat _) rfl) ?_
        obtain ⟨x8, h9, H⟩ := bnd H
        refine seq_run0 (t_idx tyE52 (fun _ => rfl) rfl rfl h9) ?_
        refine seq_run0 (stp_fldE tyF42_3 rfl) ?_
        refine seq_run0 (stp_loadE1 tyS9 rfl (map_at h9) rfl) ?_
        refine seq_run0 (stp_sneq rfl rfl) ?_
        refine awp_cond _ rfl (fun h10 => ?_) (fun h10 => ?_)
        · replace H := ift h10 H
          refine awp_seq ?_
          refine awp_plain hN rfl ?_
          refine seq_run0 (stp_assign (.dat _) rfl) ?_
          refine awp_ret ?_
          cases H
          exact ⟨trivial, .inl rfl, trivial⟩
        · replace H := iff_ h10 H
          refine awp_skip ?_
          refine awp_joinE (ι := Unit) (fun i => []) (fun i => []) (fun i => gateref2_ChainFault_J2 = some r) (fun i => rfl) ?_ ?_
          · skip
            refine awp_seq ?_
            refine awp_plain hN rfl ?_
            refine seq_run0 (stp_assign (.dat _) rfl) ?_
            refine awp_block ?_
            refine awp_iter (fun (s : Int) => [(0, .dat (vlst (List.map C_api_Claims v1))), (6, .dat (vint s))]) (fun (s : Int) => []) 1 H ⟨rfl, rfl, trivial⟩ trivial (fun _ => rfl) ?_
            rintro v11 q12 H hq12
            replace H : gateref2_ChainFault_L3 v1 v11 = some q12 := H
            unfold gateref2_ChainFault_L3 at H
            refine awp_seq ?_
            refine awp_seq ?_
            refine awp_plain hN rfl ?_
            refine seq_run0 (stp_move (.dat _) rfl) ?_
            refine seq_run0 (stp_move (.dat _) rfl) ?_
            refine seq_run0 (t_len tyU52 rfl) ?_
            refine seq_run0 (stp_lss rfl rfl) ?_
            refine awp_cond _ rfl (fun h13 => ?_) (fun h13 => ?_)
            · replace H := ift h13 H
              refine awp_skip ?_
              refine awp_seq ?_
              refine awp_block ?_
              refine awp_seq ?_
              refine awp_draw mixed hN rfl rfl ?_
              refine seq_run0 (stp_move (.dat _) rfl) ?_
              refine seq_run0 (stp_move (.dat _) rfl) ?_
              refine seq_run0 (stp_wrap _ rfl rfl (.inr (.inl ⟨rfl, rfl⟩))) ?_
              obtain ⟨x14, h15, H⟩ := bnd H
              refine seq_run0 (t_idxI tyE52 (fun _ => rfl) rfl rfl h15) ?_
              refine seq_run0 (stp_loadEA tyS42 rfl (map_at (at_some h15).2) rfl) ?_
              refine seq_run0 (stp_move (.dat _) rfl) ?_
              refine seq_run0 (stp_move (.dat _) rfl) ?_
              obtain ⟨x16, h17, H⟩ := bnd H
              refine seq_run0 (t_idxI tyE52 (fun _ => rfl) rfl rfl h17) ?_
              refine seq_run0 (stp_loadEA tyS42 rfl (map_at (at_some h17).2) rfl) ?_
              refine seq_run2 (stp_alloc 1 tyZ42 rfl) rfl ?_
              refine seq_run2 (stp_alloc 2 tyZ42 rfl) rfl ?_
              refine seq_run2 (stp_storeW tyS42 rfl rfl rfl rfl) rfl ?_
              refine seq_run2 (stp_storeW tyS42 rfl rfl rfl rfl) rfl ?_
              refine ⟨rfl, ?_⟩
              refine awp_block ?_
              refine awp_seq ?_
              refine awp_plain hN rfl ?_
              refine seq_run0 (stp_fldP tyF42_3 rfl) ?_
              refine seq_run1 (stp_load1 tyS9 rfl rfl) rfl ?_
              refine seq_run0 (stp_fldP tyF42_0 rfl) ?_
              refine seq_run1 (stp_load1 tyS9 rfl rfl) rfl ?_
              refine seq_run0 (stp_sneq rfl rfl) ?_
              refine seq_run0 (stp_assign (.dat _) rfl) ?_
              refine awp_cond _ rfl (fun h18 => ?_) (fun h18 => ?_)
              · replace H := ift h18 H
                refine awp_seq ?_
                refine awp_plain hN rfl ?_
                refine seq_run0 (stp_assign (.dat _) rfl) ?_
                refine awp_ret ?_
                replace H := retl H hq12
                cases H
                exact ⟨trivial, .inl rfl, trivial⟩
              · replace H := iff_ h18 H
                refine awp_seq ?_
                refine awp_frzB 2 [vstr x16.Id, vstr x16.Subject, vstr x16.Issuer, vstr x16.Parent, vlst (List.map C_string x16.Audience), vlst (List.map C_string x16.Scopes), vint x16.From, vint x16.To] rfl rfl ?_
                refine awp_plain hN rfl ?_
                refine seq_run0 (stp_move (.dat _) rfl) ?_
                refine seq_run0 (stp_move (.dat _) rfl) ?_
                obtain ⟨l19, h20, H⟩ := bnd H
                refine seq_run0 (t_subL tyE52 (fun _ => rfl) rfl rfl rfl h20) ?_
                refine seq_run0 (stp_mkfn (us := [_]) ⟨rfl, trivial⟩) ?_
                obtain ⟨r21, h22, H⟩ := bnd H
                refine seq_run0 (stp_call (k_slices_ContainsFunc_L_api_Claims_api_Claims_ l19 (fun (a0 : S_api_Claims) => m_gateref2_ChainFault_1 a0 x16) 55 [vcell [[vstr x16.Id, vstr x16.Subject, vstr x16.Issuer, vstr x16.Parent, vlst (List.map C_string x16.Audience), vlst (List.map C_string x16.Scopes), vint x16.From, vint x16.To]] 0 0] (fun a0 r h => k_gateref2_ChainFault_1 a0 x16 r h) r21 h22) ⟨.inl rfl, .inl rfl, trivial⟩) ?_
                refine seq_run0 (stp_assign (.dat _) rfl) ?_
                refine awp_cond _ rfl (fun h23 => ?_) (fun h23 => ?_)
                · replace H := ift h23 H
                  refine awp_seq ?_
                  refine awp_plain hN rfl ?_
                  refine seq_run0 (stp_assign (.dat _) rfl) ?_
                  refine awp_ret ?_
                  replace H := retl H hq12
                  cases H
                  exact ⟨trivial, .inl rfl, trivial⟩
                · replace H := iff_ h23 H
                  refine awp_joinE (ι := Bool) (fun i => [(0, .dat (vlst (List.map C_api_Claims v1))), (6, .dat (vint v11)), (7, .ptr 1 0), (8, .dat (vcell [[vstr x16.Id, vstr x16.Subject, vstr x16.Issuer, vstr x16.Parent, vlst (List.map C_string x16.Audience), vlst (List.map C_string x16.Scopes), vint x16.From, vint x16.To]] 0 0)), (59, .dat (vbool i))]) (fun i => [(1, .box none 42 [.dat (vstr x14.Id), .dat (vstr x14.Subject), .dat (vstr x14.Issuer), .dat (vstr x14.Parent), .dat (vlst (List.map C_string x14.Audience)), .dat (vlst (List.map C_string x14.Scopes)), .dat (vint x14.From), .dat (vint x14.To)])]) (fun i => gateref2_ChainFault_J4 v11 x14 x16 i = some q12) (fun i => rfl) ?_ ?_
                  · skip
                    refine awp_plain hN rfl ?_
                    refine seq_run0 (stp_fldE tyF42_2 rfl) ?_
                    refine seq_run0 (stp_loadE1 tyS9 rfl rfl rfl) ?_
                    refine seq_run0 (stp_fldP tyF42_2 rfl) ?_
                    refine seq_run1 (stp_load1 tyS9 rfl rfl) rfl ?_
                    refine seq_run0 (stp_sneq rfl rfl) ?_
                    refine seq_run0 (stp_move (.dat _) rfl) ?_
                    refine seq_split (j := 5) rfl rfl (fun h24 => ?_) (fun h24 => ?_) rfl
                    · have h25 := un3 h24
                      replace H := iff_ h25 H
                      refine seq_g0 rfl rfl h24 (stp_fldE tyF42_4 rfl) ?_
                      refine seq_g0 rfl rfl h24 (stp_loadE1 tyS26 rfl rfl rfl) ?_
                      refine seq_g0 rfl rfl h24 (stp_fldP tyF42_4 rfl) ?_
                      refine seq_g1 rfl rfl h24 (stp_load1 tyS26 rfl rfl) rfl ?_
                      obtain ⟨r26, h27, H⟩ := bnd H
                      refine seq_g0 rfl rfl h24 (stp_call (k_slices_Equal_L_string_string_ x16.Audience x14.Audience r26 h27) ⟨.inl rfl, .inl rfl, trivial⟩) ?_
                      refine seq_g0 rfl rfl h24 (stp_not rfl) ?_
                      refine seq_run0 (stp_pick_f rfl (bFF h25) rfl) ?_
                      refine seq_run0 (stp_assign (.dat _) rfl) ?_
                      exact ⟨!r26, H, ⟨rfl, rfl, rfl, rfl, rfl, trivial⟩, ⟨rfl, trivial⟩⟩
                    · have h28 := un4 h24
                      replace H := ift h28 H
                      refine seq_skip rfl rfl h24 ?_
                      refine seq_skip rfl rfl h24 ?_
                      refine seq_skip rfl rfl h24 ?_
                      refine seq_skip rfl rfl h24 ?_
                      refine seq_skip rfl rfl h24 ?_
                      refine seq_skip rfl rfl h24 ?_
                      refine seq_run0 (stp_pick_t rfl (bTT h28) rfl) ?_
                      refine seq_run0 (stp_assign (.dat _) rfl) ?_
                      exact ⟨true, H, ⟨rfl, rfl, rfl, rfl, rfl, trivial⟩, ⟨rfl, trivial⟩⟩
                  · rintro v29 H
                    replace H : gateref2_ChainFault_J4 v11 x14 x16 v29 = some q12 := H
                    unfold gateref2_ChainFault_J4 at H
                    refine awp_cond _ rfl (fun h30 => ?_) (fun h30 => ?_)
                    · replace H := ift h30 H
                      refine awp_seq ?_
                      refine awp_plain hN rfl ?_
                      refine seq_run0 (stp_assign (.dat _) rfl) ?_
                      refine awp_ret ?_
                      replace H := retl H hq12
                      cases H
                      exact ⟨trivial, .inl rfl, trivial⟩
                    · replace H := iff_ h30 H
                      refine awp_seq ?_
                      refine awp_plain hN rfl ?_
                      refine seq_run0 (stp_fldP tyF42_5 rfl) ?_
                      refine seq_run1 (stp_load1 tyS26 rfl rfl) rfl ?_
                      refine seq_run0 (stp_fldE tyF42_5 rfl) ?_
                      refine seq_run0 (stp_loadE1 tyS26 rfl rfl rfl) ?_
                      obtain ⟨r31, h32, H⟩ := bnd H
                      refine seq_run0 (stp_call (k_gateref2_CoversOf x14.Scopes x16.Scopes r31 h32) ⟨.inl rfl, .inl rfl, trivial⟩) ?_
                      refine seq_run0 (stp_not rfl) ?_
                      refine seq_run0 (stp_move (.dat _) rfl) ?_
                      refine seq_aF rfl rfl (fun hc => stp_fldE tyF42_6 rfl) ?_
                      refine seq_aF rfl rfl (fun hc => stp_loadE1 tyS3 (cnd (c := (!(!r31))) hc) rfl rfl) ?_
                      refine seq_aF rfl rfl (fun hc => stp_fldP tyF42_6 rfl) ?_
                      refine seq_arF rfl rfl (fun hc => stp_load1 tyS3 (cnd (c := (!(!r31))) hc) rfl) rfl anti_p ?_
                      refine seq_aF rfl rfl (fun hc => stp_lss (cnd (c := (!(!r31))) hc) (cnd (c := (!(!r31))) hc)) ?_
                      refine seq_run0 (stp_pick_or rfl rfl (fun hb => (cnd (c := (!(!r31))) (notI hb)))) ?_
                      refine seq_run0 (stp_move (.dat _) rfl) ?_
                      refine seq_aF rfl rfl (fun hc => stp_fldE tyF42_7 rfl) ?_
                      refine seq_aF rfl rfl (fun hc => stp_loadE1 tyS3 (cnd (c := (!((!r31) || (decide (x16.From < x14.From))))) hc) rfl rfl) ?_
                      refine seq_aF rfl rfl (fun hc => stp_fldP tyF42_7 rfl) ?_
                      refine seq_arF rfl rfl (fun hc => stp_load1 tyS3 (cnd (c := (!((!r31) || (decide (x16.From < x14.From))))) hc) rfl) rfl anti_p ?_
                      refine seq_aF rfl rfl (fun hc => stp_gtr (cnd (c := (!((!r31) || (decide (x16.From < x14.From))))) hc) (cnd (c := (!((!r31) || (decide (x16.From < x14.From))))) hc)) ?_
                      refine seq_run0 (stp_pick_or rfl rfl (fun hb => (cnd (c := (!((!r31) || (decide (x16.From < x14.From))))) (notI hb)))) ?_
                      refine seq_run0 (stp_assign (.dat _) rfl) ?_
                      refine awp_cond _ rfl (fun h33 => ?_) (fun h33 => ?_)
                      · replace H := ift h33 H
                        refine awp_seq ?_
                        refine awp_plain hN rfl ?_
                        refine seq_run0 (stp_assign (.dat _) rfl) ?_
                        refine awp_ret ?_
                        replace H := retl H hq12
                        cases H
                        exact ⟨trivial, .inl rfl, trivial⟩
                      · replace H := iff_ h33 H
                        refine awp_skip ?_
                        refine awp_plain hN rfl ?_
                        refine seq_run0 (stp_move (.dat _) rfl) ?_
                        refine seq_run0 (stp_wrap _ rfl rfl (.inl ⟨rfl, rfl⟩)) ?_
                        refine seq_run0 (stp_assign (.dat _) rfl) ?_
                        exact ⟨_, backl H, ⟨rfl, rfl, trivial⟩, trivial⟩
            · replace H := iff_ h13 H
              refine awp_exit ?_
              replace H := outl H hq12
              exact ⟨(), H, trivial, trivial⟩
          · rintro ⟨⟩ H
            replace H : gateref2_ChainFault_J2 = some r := H
            unfold gateref2_ChainFault_J2 at H
            refine awp_seq ?_
            refine awp_plain hN rfl ?_
            refine seq_run0 (stp_assign (.dat _) rfl) ?_
            refine awp_ret ?_
            cases H
            exact ⟨trivial, .inl rfl, trivial⟩
    · rintro k3 x6 ⟨⟩ q4 h34 h35 H hq4
      replace H : gateref2_ChainFault_L1 k3 x6 = some q4 := H
      unfold gateref2_ChainFault_L1 at H
      refine awp_seq ?_
      refine awp_plain hN rfl ?_
      refine seq_run0 (stp_lss rfl rfl) ?_
      refine awp_seq ?_
      refine awp_cond _ rfl (fun h => ?_) (fun h => (lt_f h34 h).elim)
      refine awp_skip ?_
      refine awp_seq ?_
      refine awp_block ?_
      refine awp_seq ?_
      refine awp_plain hN rfl ?_
      refine seq_run0 (t_idx tyE52 (fun _ => rfl) rfl rfl h35) ?_
      refine seq_run0 (stp_loadEA tyS42 rfl (map_at h35) rfl) ?_
      refine seq_run2 (stp_alloc 3 tyZ42 rfl) rfl ?_
      refine seq_run2 (stp_storeW tyS42 rfl rfl rfl rfl) rfl ?_
      refine awp_seq ?_
      refine awp_plain hN rfl ?_
      refine seq_run1 (stp_loadA tyS42 rfl rfl rfl) rfl ?_
      obtain ⟨r36, h37, H⟩ := bnd H
      refine seq_run0 (stp_call (k_gateref2_ClaimsFault x6 r36 h37) ⟨.inl rfl, trivial⟩) ?_
      refine seq_run0 (stp_assign (.dat _) rfl) ?_
      refine awp_seq ?_
      refine awp_plain hN rfl ?_
      refine seq_run0 (stp_move (.dat _) rfl) ?_
      refine seq_run0 (stp_neq rfl rfl) ?_
      refine awp_cond _ rfl (fun h38 => ?_) (fun h38 => ?_)
      · replace H := ift h38 H
        refine awp_seq ?_
        refine awp_plain hN rfl ?_
        refine seq_run0 (stp_move (.dat _) rfl) ?_
        refine seq_run0 (stp_assign (.dat _) rfl) ?_
        refine awp_ret ?_
        replace H := retl H hq4
        cases H
        exact ⟨trivial, .inl rfl, trivial⟩
      · replace H := iff_ h38 H
        refine awp_skip ?_
        refine awp_plain hN rfl ?_
        refine seq_run0 (stp_add rfl rfl (by omega)) ?_
        refine seq_run0 (stp_move (.dat _) rfl) ?_
        exact ⟨_, backl H, ⟨rfl, rfl, rfl, rfl, trivial⟩, trivial⟩
theorem k_token_Encode (s1 : Bs) (r : (Bs)) (H : m_token_Encode s1 = some r) : Fn Tryz.prog 44 [vstr s1] (resOf [vstr r]) := by
  refine ⟨by kernel_rfl, pure_of (us := [vstr r]) Tryz.func44 rfl rfl rfl rfl fun X hN => ?_⟩
  unfold m_token_Encode at H
  refine awp_seq ?_
  refine awp_plain hN rfl ?_
  refine seq_run0 (stp_assign (.dat _) rfl) ?_
  refine awp_seq ?_
  refine awp_plain hN rfl ?_
  refine seq_run0 (stp_assign (.dat _) rfl) ?_
  refine awp_joinE (ι := (List Int)) (fun i => [(3, .row 1 i.length)]) (fun i => [(1, .row 5 1 (List.map C_uint8 i))]) (fun i => token_Encode_J1 i = some r) (fun i => rfl) ?_ ?_
  · skip
    refine awp_block ?_
    refine awp_nilrow 3 1 5 1 rfl rfl rfl ?_
    refine awp_iter (fun (s : Bs × (List Int)) => [(0, .dat (vstr s.1)), (3, .row 1 s.2.length)]) (fun (s : Bs × (List Int)) => [(1, .row 5 1 (List.map C_uint8 s.2))]) (s1, []) H ⟨rfl, congrArg (Slot.row 1) (by simp), trivial⟩ ⟨rfl, trivial⟩ (fun _ => rfl) ?_
    rintro ⟨s2, l3⟩ q4 H hq4
    replace H : token_Encode_L2 s2 l3 = some q4 := H
    unfold token_Encode_L2 at H
    refine awp_seq ?_
    refine awp_seq ?_
    refine awp_plain hN rfl ?_
    refine seq_run0 (stp_move (.dat _) rfl) ?_
    refine seq_run0 (stp_len_str tyU9 rfl) ?_
    refine seq_run0 (stp_gtr rfl rfl) ?_
    refine awp_cond _ rfl (fun h5 => ?_) (fun h5 => ?_)
    · replace H := ift h5 H
      refine awp_skip ?_
      refine awp_block ?_
      refine awp_seq ?_
      refine awp_plain hN rfl ?_
      refine seq_run0 (stp_move (.dat _) rfl) ?_
      refine seq_run0 (stp_len_str tyU9 rfl) ?_
      refine seq_run0 (stp_min rfl rfl) ?_
      refine seq_run0 (stp_assign (.dat _) rfl) ?_
      refine awp_seq ?_
      refine awp_plain hN rfl ?_
      refine seq_run0 (stp_assign (.dat _) rfl) ?_
      refine awp_seq ?_
      refine awp_seq ?_
      refine awp_plain hN rfl ?_
      refine seq_run0 (stp_move (.dat _) rfl) ?_
      refine awp_block ?_
      obtain ⟨h9, H⟩ := gif H
      refine awp_rng (fun (k7 : Nat) (s : Int) => [(0, .dat (vstr s2)), (3, .row 1 l3.length), (4, .dat (vint (min 3 (s2.length : Int)))), (5, .dat (vint s)), (14, .dat (vint (k7 : Int)))]) (fun (k7 : Nat) (s : Int) => [(1, .row 5 1 (List.map C_uint8 l3))]) 0 H ⟨rfl, rfl, rfl, rfl, rfl, trivial⟩ ⟨rfl, trivial⟩ (fun _ _ => rfl) ?_ ?_
      · rintro x6 H
        replace H : token_Encode_E3 s2 l3 x6 = some q4 := H
        unfold token_Encode_E3 at H
        refine awp_seq ?_
        refine awp_plain hN rfl ?_
        refine seq_run0 (stp_lss rfl rfl) ?_
        refine awp_seq ?_
        refine awp_cond _ rfl (fun h => (lt_t h).elim) (fun h => ?_)
        refine awp_exit ?_
        refine awp_seq ?_
        refine awp_seq ?_
        refine awp_plain hN rfl ?_
        refine seq_run0 (stp_move (.dat _) rfl) ?_
        refine seq_run0 (stp_wrap _ rfl rfl (.inl ⟨rfl, rfl⟩)) ?_
        refine seq_run0 (stp_move (.dat _) rfl) ?_
        refine awp_block ?_
        obtain ⟨h13, H⟩ := gif H
        refine awp_rng (fun (k11 : Nat) (s : (List Int)) => [(0, .dat (vstr s2)), (3, .row 1 s.length), (4, .dat (vint (min 3 (s2.length : Int)))), (5, .dat (vint x6)), (30, .dat (vint (wr ((min 3 (s2.length : Int)) + 1)))), (31, .dat (vint (k11 : Int)))]) (fun (k11 : Nat) (s : (List Int)) => [(1, .row 5 1 (List.map C_uint8 s))]) l3 H ⟨rfl, rfl, rfl, rfl, rfl, rfl, trivial⟩ ⟨rfl, trivial⟩ (fun _ _ => rfl) ?_ ?_
        · rintro l10 H
          replace H : token_Encode_E4 s2 l10 = some q4 := H
          unfold token_Encode_E4 at H
          refine awp_seq ?_
          refine awp_plain hN rfl ?_
          refine seq_run0 (stp_lss rfl rfl) ?_
          refine awp_seq ?_
          refine awp_cond _ rfl (fun h => (lt_tI h).elim) (fun h => ?_)
          refine awp_exit ?_
          refine awp_plain hN rfl ?_
          refine seq_run0 (stp_move (.dat _) rfl) ?_
          refine seq_run0 (stp_move (.dat _) rfl) ?_
          obtain ⟨l14, h15, H⟩ := bnd H
          refine seq_run0 (t_subS tyU9 rfl rfl rfl h15) ?_
          refine seq_run0 (stp_assign (.dat _) rfl) ?_
          exact ⟨_, backl H, ⟨rfl, rfl, trivial⟩, ⟨rfl, trivial⟩⟩
        · rintro k11 l10 q12 h16 H hq12
          replace H : token_Encode_L4 x6 k11 l10 = some q12 := H
          unfold token_Encode_L4 at H
          refine awp_seq ?_
          refine awp_plain hN rfl ?_
          refine seq_run0 (stp_lss rfl rfl) ?_
          refine awp_seq ?_
          refine awp_cond _ rfl (fun h => ?_) (fun h => (lt_fI h16 h).elim)
          refine awp_skip ?_
          refine awp_seq ?_
          refine awp_block ?_
          refine awp_seq ?_
          refine awp_plain hN rfl ?_
          refine seq_run0 (stp_move (.dat _) rfl) ?_
          refine seq_run0 (stp_assign (.dat _) rfl) ?_
          refine awp_plain hN rfl ?_
          refine seq_run0 (stp_move (.row _ _) rfl) ?_
          refine seq_run0 (stp_move (.dat _) rfl) ?_
          refine seq_run0 (stp_move (.dat _) rfl) ?_
          refine seq_run0 (stp_wrap _ rfl rfl (.inr (.inr ⟨rfl, rfl⟩))) ?_
          refine seq_run0 (stp_wrap _ rfl rfl (.inr (.inl ⟨rfl, rfl⟩))) ?_
          obtain ⟨h17, H⟩ := gif H
          refine seq_run0 (stp_dat (stp_shr rfl rfl h17) rfl) ?_
          refine seq_run0 (stp_dat (stp_and rfl rfl) rfl) ?_
          obtain ⟨x18, h19, H⟩ := bnd H
          refine seq_run0 (t_byteI tyU9 rfl rfl h19) ?_
          refine seq_run0 (stp_dat (u' := vlst (List.map C_uint8 [(x18.toNat : Int)])) (stp_lit [[_]] tyL82 ⟨rfl, .inl ⟨_, rfl, rfl, rfl⟩, rfl, trivial⟩ rfl rfl) rfl) ?_
          obtain ⟨h20, H⟩ := gif H
          refine seq_run2 (t_app tyL82 (fun _ => rfl) rfl rfl rfl ⟨by simp, by simpa using h20⟩ rfl) rfl ?_
          refine seq_run0 (stp_assign (.row _ _) rfl) ?_
          refine awp_plain hN rfl ?_
          refine seq_run0 (stp_add rfl rfl (by omega)) ?_
          refine seq_run0 (stp_move (.dat _) rfl) ?_
          exact ⟨_, backl H, ⟨rfl, rfl, rfl, rfl, rfl, rfl, trivial⟩, ⟨rfl, trivial⟩⟩
      · rintro k7 x6 q8 h21 H hq8
        replace H : token_Encode_L3 s2 k7 x6 = some q8 := H
        unfold token_Encode_L3 at H
        refine awp_seq ?_
        refine awp_plain hN rfl ?_
        refine seq_run0 (stp_lss rfl rfl) ?_
        refine awp_seq ?_
        refine awp_cond _ rfl (fun h => ?_) (fun h => (lt_f h21 h).elim)
        refine awp_skip ?_
        refine awp_joinE (ι := Int) (fun i => [(0, .dat (vstr s2)), (3, .row 1 l3.length), (4, .dat (vint (min 3 (s2.length : Int)))), (5, .dat (vint i)), (14, .dat (vint (k7 : Int)))]) (fun i => [(1, .row 5 1 (List.map C_uint8 l3))]) (fun i => token_Encode_J5 i = some q8) (fun i => rfl) ?_ ?_
        · skip
          refine awp_block ?_
          refine awp_seq ?_
          refine awp_plain hN rfl ?_
          refine seq_run0 (stp_move (.dat _) rfl) ?_
          refine seq_run0 (stp_assign (.dat _) rfl) ?_
          refine awp_seq ?_
          refine awp_plain hN rfl ?_
          refine seq_run0 (stp_move (.dat _) rfl) ?_
          refine seq_run0 (stp_dat (stp_shl rfl rfl (by decide)) rfl) ?_
          refine seq_run0 (stp_assign (.dat _) rfl) ?_
          refine awp_seq ?_
          refine awp_plain hN rfl ?_
          refine seq_run0 (stp_move (.dat _) rfl) ?_
          refine seq_run0 (stp_move (.dat _) rfl) ?_
          refine seq_run0 (stp_lss rfl rfl) ?_
          refine awp_cond _ rfl (fun h22 => ?_) (fun h22 => ?_)
          · replace H := ift h22 H
            refine awp_plain hN rfl ?_
            refine seq_run0 (stp_move (.dat _) rfl) ?_
            refine seq_run0 (stp_move (.dat _) rfl) ?_
            refine seq_run0 (stp_move (.dat _) rfl) ?_
            obtain ⟨x23, h24, H⟩ := bnd H
            refine seq_run0 (t_byte tyU9 rfl rfl h24) ?_
            refine seq_run0 (stp_conv tyU5 tyU3 rfl) ?_
            refine seq_run0 (stp_dat (stp_or rfl rfl) rfl) ?_
            refine seq_run0 (stp_assign (.dat _) rfl) ?_
            exact ⟨(or_ .i64 (shl_ .i64 x6 8) (IntKind.wrap .i64 (x23.toNat : Int))), H, ⟨rfl, rfl, rfl, rfl, rfl, trivial⟩, ⟨rfl, trivial⟩⟩
          · replace H := iff_ h22 H
            refine awp_skip ?_
            exact ⟨(shl_ .i64 x6 8), H, ⟨rfl, rfl, rfl, rfl, rfl, trivial⟩, ⟨rfl, trivial⟩⟩
        · rintro x25 H
          replace H : token_Encode_J5 x25 = some q8 := H
          unfold token_Encode_J5 at H
          refine awp_plain hN rfl ?_
          refine seq_run0 (stp_add rfl rfl (by omega)) ?_
          refine seq_run0 (stp_move (.dat _) rfl) ?_
          exact ⟨_, backl H, ⟨rfl, rfl, rfl, rfl, rfl, trivial⟩, ⟨rfl, trivial⟩⟩
    · replace H := iff_ h5 H
      refine awp_exit ?_
      replace H := outl H hq4
      exact ⟨l3, H, ⟨rfl, trivial⟩, ⟨rfl, trivial⟩⟩
  · rintro out26 H
    replace H : token_Encode_J1 out26 = some r := H
    unfold token_Encode_J1 at H
    refine awp_seq ?_
    refine t_freeze 3 1 rfl rfl rfl ?_
    refine awp_plain hN rfl ?_
    refine seq_run0 (stp_move (.dat _) rfl) ?_
    refine seq_run0 (stp_convB (C := C_uint8) tyU82 tyU5 tyU9 (fun _ => rfl) rfl) ?_
    refine seq_run0 (stp_assign (.dat _) rfl) ?_
    refine awp_ret ?_
    cases H
    exact ⟨trivial, .inl rfl, trivial⟩
theorem k_gatelaw2_signed  (r : (Bool)) (H : m_gatelaw2_signed  = some r) : Fn Tryz.prog 16 [] (resOf [vbool r]) := by
  refine ⟨by kernel_rfl, pure_of (us := [vbool r]) Tryz.func16 rfl rfl rfl rfl fun X hN => ?_⟩
  unfold m_gatelaw2_signed at H
  refine awp_seq ?_
  refine awp_plain hN rfl ?_
  refine seq_run0 (stp_assign (.dat _) rfl) ?_
  refine awp_seq ?_
  refine awp_plain hN rfl ?_
  obtain ⟨r1, h2, H⟩ := bnd H
  refine seq_run0 (stp_call (k_token_Encode [97, 98] r1 h2) ⟨.inl rfl, trivial⟩) ?_
  refine seq_run0 (stp_seql rfl rfl) ?_
  refine seq_run0 (stp_assign (.dat _) rfl) ?_
  refine awp_ret ?_
  cases H
  exact ⟨trivial, .inl rfl, trivial⟩
theorem k_gatelaw2_ClaimsDelegated (v1 : (List Int)) (r : (Bool)) (H : m_gatelaw2_ClaimsDelegated v1 = some r) : Fn Tryz.prog 4 [vlst (List.map C_int v1)] (resOf [vbool r]) := by
  refine ⟨by kernel_rfl, pure_of (us := [vbool r]) Tryz.func4 rfl rfl rfl rfl fun X hN => ?_⟩
  unfold m_gatelaw2_ClaimsDelegated at H
  refine awp_seq ?_
  refine awp_plain hN rfl ?_
  refine seq_run0 (stp_assign (.dat _) rfl) ?_
  refine awp_seq ?_
  refine awp_plain hN rfl ?_
  refine seq_run0 (stp_move (.dat _) rfl) ?_
  refine seq_run0 (stp_dat (u' := vagg (C_gatemake_Stream (S_gatemake_Stream.mk v1 0))) (stp_build [(0, [vlst (List.map C_int v1)])] tyZ25 tyP25 rfl ⟨rfl, .inl ⟨_, rfl, rfl, rfl⟩, rfl, trivial⟩) rfl) ?_
  refine seq_run2 (stp_boxA 1 rfl) rfl ?_
  refine seq_run0 (stp_assign (.ptr _ _) rfl) ?_
  refine awp_seq ?_
  refine awp_plain hN rfl ?_
  refine seq_run0 (stp_move (.ptr _ _) rfl) ?_
  obtain ⟨r2, h3, H⟩ := bnd H
  refine seq_run2 (stp_imp (k_gatemake_Stream_Claims (S_gatemake_Stream.mk v1 0) r2 h3) rfl trivial rfl) rfl ?_
  refine seq_run0 (stp_move (.ptr _ _) rfl) ?_
  refine seq_run0 (stp_dat (u' := vlst (List.map C_string [[116, 57], [116, 57], [116, 56], [116, 49], [], [65]])) (stp_lit [[_], [_], [_], [_], [_], [_]] tyL26 ⟨rfl, .inl ⟨_, rfl, rfl, rfl⟩, rfl, rfl, .inl ⟨_, rfl, rfl, rfl⟩, rfl, rfl, .inl ⟨_, rfl, rfl, rfl⟩, rfl, rfl, .inl ⟨_, rfl, rfl, rfl⟩, rfl, rfl, .inl ⟨_, rfl, rfl, rfl⟩, rfl, rfl, .inl ⟨_, rfl, rfl, rfl⟩, rfl, trivial⟩ rfl rfl) rfl) ?_
  obtain ⟨r4, h5, H⟩ := bnd H
  refine seq_run2 (stp_imp (k_gatemake_Stream_Some r2.2 ([[116, 57], [116, 57], [116, 56], [116, 49], [], [65]]) r4 h5) rfl ⟨.inl rfl, trivial⟩ rfl) rfl ?_
  refine seq_run0 (stp_move (.ptr _ _) rfl) ?_
  refine seq_run0 (stp_dat (u' := vlst (List.map C_string [[98, 111, 116], [98, 111, 116], []])) (stp_lit [[_], [_], [_]] tyL26 ⟨rfl, .inl ⟨_, rfl, rfl, rfl⟩, rfl, rfl, .inl ⟨_, rfl, rfl, rfl⟩, rfl, rfl, .inl ⟨_, rfl, rfl, rfl⟩, rfl, trivial⟩ rfl rfl) rfl) ?_
  obtain ⟨r6, h7, H⟩ := bnd H
  refine seq_run2 (stp_imp (k_gatemake_Stream_Some r4.2 ([[98, 111, 116], [98, 111, 116], []]) r6 h7) rfl ⟨.inl rfl, trivial⟩ rfl) rfl ?_
  refine seq_run0 (stp_move (.ptr _ _) rfl) ?_
  obtain ⟨r8, h9, H⟩ := bnd H
  refine seq_run2 (stp_imp (k_gatemake_Stream_Scopes r6.2 r8 h9) rfl trivial rfl) rfl ?_
  refine seq_run2 (stp_alloc 2 tyZ42 rfl) rfl ?_
  refine seq_run2 (stp_storeW tyS42 rfl rfl rfl rfl) rfl ?_
  refine seq_run0 (stp_assign (.dat _) rfl) ?_
  refine seq_run0 (stp_assign (.dat _) rfl) ?_
  refine seq_run0 (stp_assign (.dat _) rfl) ?_
  refine awp_joinE (ι := (List Bs) × (List Int) × Int) (fun i => [(3, .ptr 1 0), (4, .ptr 2 0), (5, .dat (vstr r4.1)), (6, .dat (vstr r6.1)), (7, .dat (vlst (List.map C_string i.1)))]) (fun i => [(1, .box none 25 [.dat (vlst (List.map C_int i.2.1)), .dat (vint i.2.2)]), (2, .box none 42 [.dat (vstr r2.1.Id), .dat (vstr r2.1.Subject), .dat (vstr r2.1.Issuer), .dat (vstr r2.1.Parent), .dat (vlst (List.map C_string r2.1.Audience)), .dat (vlst (List.map C_string r2.1.Scopes)), .dat (vint r2.1.From), .dat (vint r2.1.To)])]) (fun i => gatelaw2_ClaimsDelegated_J1 r2 r4 r6 i.1 i.2.1 i.2.2 = some r) (fun i => rfl) ?_ ?_
  · skip
    refine awp_seq ?_
    refine awp_plain hN rfl ?_
    refine seq_run0 (stp_move (.ptr _ _) rfl) ?_
    obtain ⟨r10, h11, H⟩ := bnd H
    refine seq_run2 (stp_imp (k_gatemake_Stream_Flip r8.2 2 r10 h11) rfl ⟨.inl rfl, trivial⟩ rfl) rfl ?_
    refine awp_cond _ rfl (fun h12 => ?_) (fun h12 => ?_)
    · replace H := ift h12 H
      refine awp_plain hN rfl ?_
      refine seq_run0 (stp_fldP tyF42_5 rfl) ?_
      refine seq_run1 (stp_load1 tyS26 rfl rfl) rfl ?_
      refine seq_run0 (stp_assign (.dat _) rfl) ?_
      exact ⟨(r2.1.Scopes, r10.2.L, r10.2.at_), H, ⟨rfl, rfl, rfl, rfl, rfl, trivial⟩, ⟨rfl, rfl, trivial⟩⟩
    · replace H := iff_ h12 H
      refine awp_skip ?_
      exact ⟨(r8.1, r10.2.L, r10.2.at_), H, ⟨rfl, rfl, rfl, rfl, rfl, trivial⟩, ⟨rfl, rfl, trivial⟩⟩
  · rintro ⟨v13, c14, c15⟩ H
    replace H : gatelaw2_ClaimsDelegated_J1 r2 r4 r6 v13 c14 c15 = some r := H
    unfold gatelaw2_ClaimsDelegated_J1 at H
    refine awp_seq ?_
    refine awp_draw mixed hN rfl rfl ?_
    refine seq_run0 (stp_fldP tyF42_6 rfl) ?_
    refine seq_run1 (stp_load1 tyS3 rfl rfl) rfl ?_
    refine seq_run0 (stp_move (.ptr _ _) rfl) ?_
    refine seq_run0 (stp_dat (u' := vlst (List.map C_int [0, 0, 1, (-1)])) (stp_lit [[_], [_], [_], [_]] tyL22 ⟨rfl, .inl ⟨_, rfl, rfl, rfl⟩, rfl, rfl, .inl ⟨_, rfl, rfl, rfl⟩, rfl, rfl, .inl ⟨_, rfl, rfl, rfl⟩, rfl, rfl, .inl ⟨_, rfl, rfl, rfl⟩, rfl, trivial⟩ rfl rfl) rfl) ?_
    obtain ⟨r16, h17, H⟩ := bnd H
    refine seq_run2 (stp_imp (k_gatemake_Stream_Pick (S_gatemake_Stream.mk c14 c15) [0, 0, 1, (-1)] r16 h17) rfl ⟨.inl rfl, trivial⟩ rfl) rfl ?_
    refine seq_run0 (stp_wrap _ rfl rfl (.inl ⟨rfl, rfl⟩)) ?_
    refine seq_run0 (stp_fldP tyF42_7 rfl) ?_
    refine seq_run1 (stp_load1 tyS3 rfl rfl) rfl ?_
    refine seq_run0 (stp_move (.ptr _ _) rfl) ?_
    refine seq_run0 (stp_dat (u' := vlst (List.map C_int [0, 0, 1, (-1), 300])) (stp_lit [[_], [_], [_], [_], [_]] tyL22 ⟨rfl, .inl ⟨_, rfl, rfl, rfl⟩, rfl, rfl, .inl ⟨_, rfl, rfl, rfl⟩, rfl, rfl, .inl ⟨_, rfl, rfl, rfl⟩, rfl, rfl, .inl ⟨_, rfl, rfl, rfl⟩, rfl, rfl, .inl ⟨_, rfl, rfl, rfl⟩, rfl, trivial⟩ rfl rfl) rfl) ?_
    obtain ⟨r18, h19, H⟩ := bnd H
    refine seq_run2 (stp_imp (k_gatemake_Stream_Pick r16.2 [0, 0, 1, (-1), 300] r18 h19) rfl ⟨.inl rfl, trivial⟩ rfl) rfl ?_
    refine seq_run0 (stp_wrap _ rfl rfl (.inr (.inl ⟨rfl, rfl⟩))) ?_
    refine seq_run0 (stp_dat (u' := vagg (C_api_Window (S_api_Window.mk (wr (r2.1.From + r16.1)) (wr (r2.1.To - r18.1))))) (stp_build [(0, [vint (wr (r2.1.From + r16.1))]), (1, [vint (wr (r2.1.To - r18.1))])] tyZ48 tyP48 rfl ⟨rfl, .inl ⟨_, rfl, rfl, rfl⟩, rfl, rfl, .inl ⟨_, rfl, rfl, rfl⟩, rfl, trivial⟩) rfl) ?_
    refine seq_run2 (stp_alloc 3 tyZ48 rfl) rfl ?_
    refine seq_run2 (stp_storeW tyS48 rfl rfl rfl rfl) rfl ?_
    refine ⟨rfl, ?_⟩
    refine awp_seq ?_
    refine awp_plain hN rfl ?_
    refine seq_run1 (stp_loadA tyS42 rfl rfl rfl) rfl ?_
    refine seq_run0 (stp_move (.dat _) rfl) ?_
    refine seq_run0 (stp_move (.dat _) rfl) ?_
    refine seq_run0 (stp_move (.dat _) rfl) ?_
    refine seq_run1 (stp_loadA tyS48 rfl rfl rfl) rfl ?_
    obtain ⟨r20, h21, H⟩ := bnd H
    refine seq_run0 (stp_call (k_token_Delegate r2.1 r4.1 r6.1 v13 (S_api_Window.mk (wr (r2.1.From + r16.1)) (wr (r2.1.To - r18.1))) r20 h21) ⟨.inl rfl, .inl rfl, .inl rfl, .inl rfl, .inl rfl, trivial⟩) ?_
    refine seq_run0 (stp_move (.dat _) rfl) ?_
    refine seq_run0 (stp_ext rfl rfl) ?_
    refine seq_run0 (stp_ext rfl rfl) ?_
    refine seq_run2 (stp_alloc 4 tyZ42 rfl) rfl ?_
    refine seq_run2 (stp_storeW tyS42 rfl rfl rfl rfl) rfl ?_
    refine seq_run0 (stp_assign (.dat _) rfl) ?_
    refine awp_seq ?_
    refine awp_plain hN rfl ?_
    refine seq_run1 (stp_loadA tyS42 rfl rfl rfl) rfl ?_
    refine seq_run0 (stp_move (.dat _) rfl) ?_
    refine seq_run0 (stp_move (.dat _) rfl) ?_
    refine seq_run0 (stp_move (.dat _) rfl) ?_
    refine seq_run1 (stp_loadA tyS48 rfl rfl rfl) rfl ?_
    obtain ⟨r22, h23, H⟩ := bnd H
    refine seq_run0 (stp_call (k_gateref2_DelegateOf r2.1 r4.1 r6.1 v13 (S_api_Window.mk (wr (r2.1.From + r16.1)) (wr (r2.1.To - r18.1))) r22 h23) ⟨.inl rfl, .inl rfl, .inl rfl, .inl rfl, .inl rfl, trivial⟩) ?_
    refine seq_run0 (stp_move (.dat _) rfl) ?_
    refine seq_run0 (stp_ext rfl rfl) ?_
    refine seq_run0 (stp_ext rfl rfl) ?_
    refine seq_run2 (stp_alloc 5 tyZ42 rfl) rfl ?_
    refine seq_run2 (stp_storeW tyS42 rfl rfl rfl rfl) rfl ?_
    refine seq_run0 (stp_assign (.dat _) rfl) ?_
    refine awp_seq ?_
    refine awp_joinE (ι := Bool) (fun i => [(3, .ptr 1 0), (4, .ptr 2 0), (75, .dat (vbool i))]) (fun i => [(1, .box none 25 [.dat (vlst (List.map C_int r18.2.L)), .dat (vint r18.2.at_)]), (2, .box none 42 [.dat (vstr r2.1.Id), .dat (vstr r2.1.Subject), .dat (vstr r2.1.Issuer), .dat (vstr r2.1.Parent), .dat (vlst (List.map C_string r2.1.Audience)), .dat (vlst (List.map C_string r2.1.Scopes)), .dat (vint r2.1.From), .dat (vint r2.1.To)])]) (fun i => gatelaw2_ClaimsDelegated_J2 r2 r18 i = some r) (fun i => rfl) ?_ ?_
    · skip
      refine awp_plain hN rfl ?_
      refine seq_run0 (stp_move (.dat _) rfl) ?_
      refine seq_run0 (stp_move (.dat _) rfl) ?_
      refine seq_run0 (stp_neq rfl rfl) ?_
      refine seq_run0 (stp_move (.dat _) rfl) ?_
      refine seq_split (j := 3) rfl rfl (fun h24 => ?_) (fun h24 => ?_) rfl
      · have h25 := un3 h24
        replace H := iff_ h25 H
        refine seq_g1 rfl rfl h24 (stp_loadA tyS42 rfl rfl rfl) rfl ?_
        refine seq_g1 rfl rfl h24 (stp_loadA tyS42 rfl rfl rfl) rfl ?_
        obtain ⟨r26, h27, H⟩ := bnd H
        refine seq_g0 rfl rfl h24 (stp_call (k_gateref2_SameClaims r20.1 r22.1 r26 h27) ⟨.inl rfl, .inl rfl, trivial⟩) ?_
        refine seq_g0 rfl rfl h24 (stp_not rfl) ?_
        refine seq_run0 (stp_pick_f rfl (bFF h25) rfl) ?_
        exact ⟨!r26, H, ⟨rfl, rfl, rfl, trivial⟩, ⟨rfl, rfl, trivial⟩⟩
      · have h28 := un4 h24
        replace H := ift h28 H
        refine seq_skip rfl rfl h24 ?_
        refine seq_skip rfl rfl h24 ?_
        refine seq_skip rfl rfl h24 ?_
        refine seq_skip rfl rfl h24 ?_
        refine seq_run0 (stp_pick_t rfl (bTT h28) rfl) ?_
        exact ⟨true, H, ⟨rfl, rfl, rfl, trivial⟩, ⟨rfl, rfl, trivial⟩⟩
    · rintro v29 H
      replace H : gatelaw2_ClaimsDelegated_J2 r2 r18 v29 = some r := H
      unfold gatelaw2_ClaimsDelegated_J2 at H
      refine awp_cond _ rfl (fun h30 => ?_) (fun h30 => ?_)
      · replace H := ift h30 H
        refine awp_seq ?_
        refine awp_plain hN rfl ?_
        refine seq_run0 (stp_assign (.dat _) rfl) ?_
        refine awp_ret ?_
        cases H
        exact ⟨trivial, .inl rfl, trivial⟩
      · replace H := iff_ h30 H
        refine awp_skip ?_
        refine awp_seq ?_
        refine awp_plain hN rfl ?_
        refine seq_run1 (stp_loadA tyS42 rfl rfl rfl) rfl ?_
        refine seq_run2 (t_litR (C := C_api_Claims) 6 ([r2.1] : (List S_api_Claims)) tyL52 ⟨rfl, .inr rfl, rfl, trivial⟩ rfl rfl rfl) rfl ?_
        refine seq_run0 (stp_assign (.row _ _) rfl) ?_
        refine awp_joinE (ι := (List S_api_Claims) × (List Int) × Int) (fun i => [(3, .ptr 1 0), (13, .row 6 i.1.length)]) (fun i => [(1, .box none 25 [.dat (vlst (List.map C_int i.2.1)), .dat (vint i.2.2)]), (6, .row 42 8 (List.map C_api_Claims i.1))]) (fun i => gatelaw2_ClaimsDelegated_J3 i.1 i.2.1 i.2.2 = some r) (fun i => rfl) ?_ ?_
        · skip
          refine awp_seq ?_
          refine awp_plain hN rfl ?_
          refine seq_run0 (stp_move (.ptr _ _) rfl) ?_
          obtain ⟨r31, h32, H⟩ := bnd H
          refine seq_run2 (stp_imp (k_gatemake_Stream_Flip r18.2 2 r31 h32) rfl ⟨.inl rfl, trivial⟩ rfl) rfl ?_
          refine awp_cond _ rfl (fun h33 => ?_) (fun h33 => ?_)
          · replace H := ift h33 H
            refine awp_plain hN rfl ?_
            refine seq_run0 (stp_move (.row _ _) rfl) ?_
            obtain ⟨x34, h35, H⟩ := bnd H
            refine seq_run1 (t_idxR tyE52 rfl rfl rfl h35) rfl ?_
            refine seq_run0 (stp_fldR tyF42_3 rfl) ?_
            refine seq_run2 (t_storeR (S_api_Claims.mk x34.Id x34.Subject x34.Issuer [] x34.Audience x34.Scopes x34.From x34.To) tyS9 rfl rfl rfl rfl h35 rfl rfl) rfl ?_
            exact ⟨((([r2.1] : (List S_api_Claims)).set 0 (S_api_Claims.mk x34.Id x34.Subject x34.Issuer [] x34.Audience x34.Scopes x34.From x34.To)), r31.2.L, r31.2.at_), H, ⟨rfl, congrArg (Slot.row 6) (by simp), trivial⟩, ⟨rfl, rfl, trivial⟩⟩
          · replace H := iff_ h33 H
            refine awp_skip ?_
            exact ⟨(([r2.1] : (List S_api_Claims)), r31.2.L, r31.2.at_), H, ⟨rfl, rfl, trivial⟩, ⟨rfl, rfl, trivial⟩⟩
        · rintro ⟨v36, c37, c38⟩ H
          replace H : gatelaw2_ClaimsDelegated_J3 v36 c37 c38 = some r := H
          unfold gatelaw2_ClaimsDelegated_J3 at H
          refine awp_joinE (ι := (List S_api_Claims) × (List Int) × Int) (fun i => [(3, .ptr 1 0), (13, .row 6 i.1.length)]) (fun i => [(1, .box none 25 [.dat (vlst (List.map C_int i.2.1)), .dat (vint i.2.2)]), (6, .row 42 8 (List.map C_api_Claims i.1))]) (fun i => gatelaw2_ClaimsDelegated_J4 i.1 i.2.1 i.2.2 = some r) (fun i => rfl) ?_ ?_
          · skip
            refine awp_seq ?_
            refine awp_plain hN rfl ?_
            refine seq_run0 (stp_dat (u' := vlst (List.map C_string [[116, 55], [116, 56], [116, 57]])) (stp_lit [[_], [_], [_]] tyL26 ⟨rfl, .inl ⟨_, rfl, rfl, rfl⟩, rfl, rfl, .inl ⟨_, rfl, rfl, rfl⟩, rfl, rfl, .inl ⟨_, rfl, rfl, rfl⟩, rfl, trivial⟩ rfl rfl) rfl) ?_
            refine seq_run0 (stp_move (.ptr _ _) rfl) ?_
            obtain ⟨r39, h40, H⟩ := bnd H
            refine seq_run2 (stp_imp (k_gatemake_Stream_Range (S_gatemake_Stream.mk c37 c38) 0 3 r39 h40) rfl ⟨.inl rfl, .inl rfl, trivial⟩ rfl) rfl ?_
            obtain ⟨l41, h42, H⟩ := bnd H
            refine seq_run0 (t_subL tyE26 (fun _ => rfl) rfl rfl rfl h42) ?_
            refine seq_run0 (t_len tyU26 rfl) ?_
            refine seq_run0 (stp_move (.dat _) rfl) ?_
            refine awp_block ?_
            obtain ⟨h48, H⟩ := gif H
            refine awp_forL (fun (k46 : Nat) (s : (List Int) × Int × (List S_api_Claims)) => [(3, .ptr 1 0), (13, .row 6 s.2.2.length), (86, .dat (vlst (List.map C_string l41))), (87, .dat (vint (l41.length : Int))), (88, .dat (vint (k46 : Int)))]) (fun (k46 : Nat) (s : (List Int) × Int × (List S_api_Claims)) => [(1, .box none 25 [.dat (vlst (List.map C_int s.1)), .dat (vint s.2.1)]), (6, .row 42 8 (List.map C_api_Claims s.2.2))]) (r39.2.L, r39.2.at_, v36) H ⟨rfl, rfl, rfl, rfl, rfl, trivial⟩ ⟨rfl, rfl, trivial⟩ (fun _ _ => rfl) ?_ ?_
            · rintro ⟨c43, c44, l45⟩ H
              replace H : gatelaw2_ClaimsDelegated_E5 c43 c44 l45 = some r := H
              unfold gatelaw2_ClaimsDelegated_E5 at H
              refine awp_seq ?_
              refine awp_plain hN rfl ?_
              refine seq_run0 (stp_lss rfl rfl) ?_
              refine awp_seq ?_
              refine awp_cond _ rfl (fun h => (lt_t h).elim) (fun h => ?_)
              refine awp_exit ?_
              exact ⟨(l45, c43, c44), H, ⟨rfl, rfl, trivial⟩, ⟨rfl, rfl, trivial⟩⟩
            · rintro k46 x49 ⟨c43, c44, l45⟩ q47 h50 h51 H hq47
              replace H : gatelaw2_ClaimsDelegated_L5 k46 x49 c43 c44 l45 = some q47 := H
              unfold gatelaw2_ClaimsDelegated_L5 at H
              refine awp_seq ?_
              refine awp_plain hN rfl ?_
              refine seq_run0 (stp_lss rfl rfl) ?_
              refine awp_seq ?_
              refine awp_cond _ rfl (fun h => ?_) (fun h => (lt_f h50 h).elim)
              refine awp_skip ?_
              refine awp_seq ?_
              refine awp_block ?_
              refine awp_seq ?_
              refine awp_plain hN rfl ?_
              refine seq_run0 (t_idx tyE26 (fun _ => rfl) rfl rfl h51) ?_
              refine seq_run0 (stp_loadE1 tyS9 rfl (map_at h51) rfl) ?_
              refine seq_run0 (stp_assign (.dat _) rfl) ?_
              refine awp_seq ?_
              refine awp_plain hN rfl ?_
              refine seq_run0 (stp_move (.row _ _) rfl) ?_
              refine seq_run0 (stp_move (.row _ _) rfl) ?_
              refine seq_run1 (t_lenR tyU52 rfl rfl) rfl ?_
              refine seq_run0 (stp_wrap _ rfl rfl (.inr (.inl ⟨rfl, rfl⟩))) ?_
              obtain ⟨x52, h53, H⟩ := bnd H
              refine seq_run1 (t_idxRI tyE52 rfl rfl rfl h53) rfl ?_
              refine seq_run1 (t_loadRA tyS42 rfl rfl (at_some h53).2 rfl) rfl ?_
              refine seq_run2 (stp_alloc 7 tyZ42 rfl) rfl ?_
              refine seq_run2 (stp_storeW tyS42 rfl rfl rfl rfl) rfl ?_
              refine awp_seq ?_
              refine awp_plain hN rfl ?_
              refine seq_run1 (stp_loadA tyS42 rfl rfl rfl) rfl ?_
              refine seq_run0 (stp_move (.dat _) rfl) ?_
              refine seq_run0 (stp_fldP tyF42_5 rfl) ?_
              refine seq_run1 (stp_load1 tyS26 rfl rfl) rfl ?_
              refine seq_run0 (stp_fldP tyF42_6 rfl) ?_
              refine seq_run1 (stp_load1 tyS3 rfl rfl) rfl ?_
              refine seq_run0 (stp_fldP tyF42_7 rfl) ?_
              refine seq_run1 (stp_load1 tyS3 rfl rfl) rfl ?_
              refine seq_run0 (stp_dat (u' := vagg (C_api_Window (S_api_Window.mk x52.From x52.To))) (stp_build [(0, [vint x52.From]), (1, [vint x52.To])] tyZ48 tyP48 rfl ⟨rfl, .inl ⟨_, rfl, rfl, rfl⟩, rfl, rfl, .inl ⟨_, rfl, rfl, rfl⟩, rfl, trivial⟩) rfl) ?_
              obtain ⟨r54, h55, H⟩ := bnd H
              refine seq_run0 (stp_call (k_gateref2_DelegateOf x52 x49 [98, 111, 116] x52.Scopes (S_api_Window.mk x52.From x52.To) r54 h55) ⟨.inl rfl, .inl rfl, .inl rfl, .inl rfl, .inl rfl, trivial⟩) ?_
              refine seq_run0 (stp_move (.dat _) rfl) ?_
              refine seq_run0 (stp_ext rfl rfl) ?_
              refine seq_run0 (stp_ext rfl rfl) ?_
              refine seq_run2 (stp_alloc 8 tyZ42 rfl) rfl ?_
              refine seq_run2 (stp_storeW tyS42 rfl rfl rfl rfl) rfl ?_
              refine seq_run0 (stp_assign (.dat _) rfl) ?_
              refine awp_seq ?_
              refine awp_seq ?_
              refine awp_plain hN rfl ?_
              refine seq_run0 (stp_move (.dat _) rfl) ?_
              refine seq_run0 (stp_neq rfl rfl) ?_
              refine awp_cond _ rfl (fun h56 => ?_) (fun h56 => ?_)
              · replace H := ift h56 H
                refine awp_exit ?_
                replace H := outl H hq47
                exact ⟨(l45, c43, c44), H, ⟨rfl, rfl, trivial⟩, ⟨rfl, rfl, trivial⟩⟩
              · replace H := iff_ h56 H
                refine awp_skip ?_
                refine awp_joinE (ι := Bs × Bs × Bs × (List Bs) × Int × (List Int) × Int) (fun i => [(3, .ptr 1 0), (13, .row 6 l45.length), (17, .ptr 8 0), (86, .dat (vlst (List.map C_string l41))), (87, .dat (vint (l41.length : Int))), (88, .dat (vint (k46 : Int)))]) (fun i => [(1, .box none 25 [.dat (vlst (List.map C_int i.2.2.2.2.2.1)), .dat (vint i.2.2.2.2.2.2)]), (6, .row 42 8 (List.map C_api_Claims l45)), (8, .box none 42 [.dat (vstr i.1), .dat (vstr r54.1.Subject), .dat (vstr i.2.1), .dat (vstr i.2.2.1), .dat (vlst (List.map C_string r54.1.Audience)), .dat (vlst (List.map C_string i.2.2.2.1)), .dat (vint r54.1.From), .dat (vint i.2.2.2.2.1)])]) (fun i => gatelaw2_ClaimsDelegated_J6 l45 r54 i.1 i.2.1 i.2.2.1 i.2.2.2.1 i.2.2.2.2.1 i.2.2.2.2.2.1 i.2.2.2.2.2.2 = some q47) (fun i => rfl) ?_ ?_
                · skip
                  refine awp_seq ?_
                  refine awp_plain hN rfl ?_
                  refine seq_run0 (stp_move (.ptr _ _) rfl) ?_
                  obtain ⟨r57, h58, H⟩ := bnd H
                  refine seq_run2 (stp_imp (k_gatemake_Stream_Flip (S_gatemake_Stream.mk c43 c44) 10 r57 h58) rfl ⟨.inl rfl, trivial⟩ rfl) rfl ?_
                  refine awp_cond _ rfl (fun h59 => ?_) (fun h59 => ?_)
                  · replace H := ift h59 H
                    refine awp_seq ?_
                    refine awp_plain hN rfl ?_
                    refine seq_run0 (stp_move (.ptr _ _) rfl) ?_
                    obtain ⟨r60, h61, H⟩ := bnd H
                    refine seq_run2 (stp_imp (k_gatemake_Stream_Next r57.2 5 r60 h61) rfl ⟨.inl rfl, trivial⟩ rfl) rfl ?_
                    refine awp_block ?_
                    refine awp_seq ?_
                    refine awp_plain hN rfl ?_
                    refine seq_run0 (stp_eql rfl rfl) ?_
                    refine seq_run0 (stp_assign (.dat _) rfl) ?_
                    refine awp_cond _ rfl (fun h62 => ?_) (fun h62 => ?_)
                    · replace H := ift h62 H
                      refine awp_plain hN rfl ?_
                      refine seq_run0 (stp_move (.ptr _ _) rfl) ?_
                      refine seq_run0 (stp_dat (u' := vlst (List.map C_string [[], [116, 48], [116, 55]])) (stp_lit [[_], [_], [_]] tyL26 ⟨rfl, .inl ⟨_, rfl, rfl, rfl⟩, rfl, rfl, .inl ⟨_, rfl, rfl, rfl⟩, rfl, rfl, .inl ⟨_, rfl, rfl, rfl⟩, rfl, trivial⟩ rfl rfl) rfl) ?_
                      obtain ⟨r63, h64, H⟩ := bnd H
                      refine seq_run2 (stp_imp (k_gatemake_Stream_Some r60.2 ([[], [116, 48], [116, 55]]) r63 h64) rfl ⟨.inl rfl, trivial⟩ rfl) rfl ?_
                      refine seq_run0 (stp_fldP tyF42_3 rfl) ?_
                      refine seq_run2 (stp_store1 tyS9 rfl rfl rfl rfl) rfl ?_
                      exact ⟨(r54.1.Id, r54.1.Issuer, r63.1, r54.1.Scopes, r54.1.To, r63.2.L, r63.2.at_), H, ⟨rfl, rfl, rfl, rfl, rfl, rfl, trivial⟩, ⟨rfl, rfl, rfl, trivial⟩⟩
                    · replace H := iff_ h62 H
                      refine awp_seq ?_
                      refine awp_plain hN rfl ?_
                      refine seq_run0 (stp_eql rfl rfl) ?_
                      refine seq_run0 (stp_assign (.dat _) rfl) ?_
                      refine awp_cond _ rfl (fun h65 => ?_) (fun h65 => ?_)
                      · replace H := ift h65 H
                        refine awp_plain hN rfl ?_
                        refine seq_run0 (stp_move (.ptr _ _) rfl) ?_
                        refine seq_run0 (stp_dat (u' := vlst (List.map C_string [[116, 49], [116, 55]])) (stp_lit [[_], [_]] tyL26 ⟨rfl, .inl ⟨_, rfl, rfl, rfl⟩, rfl, rfl, .inl ⟨_, rfl, rfl, rfl⟩, rfl, trivial⟩ rfl rfl) rfl) ?_
                        obtain ⟨r66, h67, H⟩ := bnd H
                        refine seq_run2 (stp_imp (k_gatemake_Stream_Some r60.2 ([[116, 49], [116, 55]]) r66 h67) rfl ⟨.inl rfl, trivial⟩ rfl) rfl ?_
                        refine seq_run0 (stp_fldP tyF42_0 rfl) ?_
                        refine seq_run2 (stp_store1 tyS9 rfl rfl rfl rfl) rfl ?_
                        exact ⟨(r66.1, r54.1.Issuer, r54.1.Parent, r54.1.Scopes, r54.1.To, r66.2.L, r66.2.at_), H, ⟨rfl, rfl, rfl, rfl, rfl, rfl, trivial⟩, ⟨rfl, rfl, rfl, trivial⟩⟩
                      · replace H := iff_ h65 H
                        refine awp_seq ?_
                        refine awp_plain hN rfl ?_
                        refine seq_run0 (stp_eql rfl rfl) ?_
                        refine seq_run0 (stp_assign (.dat _) rfl) ?_
                        refine awp_cond _ rfl (fun h68 => ?_) (fun h68 => ?_)
                        · replace H := ift h68 H
                          refine awp_plain hN rfl ?_
                          refine seq_run0 (stp_fldP tyF42_2 rfl) ?_
                          refine seq_run2 (stp_store1 tyS9 rfl rfl rfl rfl) rfl ?_
                          exact ⟨(r54.1.Id, [111, 116, 104, 101, 114], r54.1.Parent, r54.1.Scopes, r54.1.To, r60.2.L, r60.2.at_), H, ⟨rfl, rfl, rfl, rfl, rfl, rfl, trivial⟩, ⟨rfl, rfl, rfl, trivial⟩⟩
                        · replace H := iff_ h68 H
                          refine awp_seq ?_
                          refine awp_plain hN rfl ?_
                          refine seq_run0 (stp_eql rfl rfl) ?_
                          refine seq_run0 (stp_assign (.dat _) rfl) ?_
                          refine awp_cond _ rfl (fun h69 => ?_) (fun h69 => ?_)
                          · replace H := ift h69 H
                            refine awp_plain hN rfl ?_
                            refine seq_run0 (stp_fldP tyF42_7 rfl) ?_
                            refine seq_run1 (stp_load1 tyS3 rfl rfl) rfl ?_
                            refine seq_run0 (stp_wrap _ rfl rfl (.inl ⟨rfl, rfl⟩)) ?_
                            refine seq_run0 (stp_fldP tyF42_7 rfl) ?_
                            refine seq_run2 (stp_store1 tyS3 rfl rfl rfl rfl) rfl ?_
                            exact ⟨(r54.1.Id, r54.1.Issuer, r54.1.Parent, r54.1.Scopes, wr (r54.1.To + 1), r60.2.L, r60.2.at_), H, ⟨rfl, rfl, rfl, rfl, rfl, rfl, trivial⟩, ⟨rfl, rfl, rfl, trivial⟩⟩
                          · replace H := iff_ h69 H
                            refine awp_plain hN rfl ?_
                            refine seq_run0 (stp_dat (u' := vlst (List.map C_string [[42]])) (stp_lit [[_]] tyL26 ⟨rfl, .inl ⟨_, rfl, rfl, rfl⟩, rfl, trivial⟩ rfl rfl) rfl) ?_
                            refine seq_run0 (stp_fldP tyF42_5 rfl) ?_
                            refine seq_run2 (stp_store1 tyS26 rfl rfl rfl rfl) rfl ?_
                            exact ⟨(r54.1.Id, r54.1.Issuer, r54.1.Parent, [[42]], r54.1.To, r60.2.L, r60.2.at_), H, ⟨rfl, rfl, rfl, rfl, rfl, rfl, trivial⟩, ⟨rfl, rfl, rfl, trivial⟩⟩
                  · replace H := iff_ h59 H
                    refine awp_skip ?_
                    exact ⟨(r54.1.Id, r54.1.Issuer, r54.1.Parent, r54.1.Scopes, r54.1.To, r57.2.L, r57.2.at_), H, ⟨rfl, rfl, rfl, rfl, rfl, rfl, trivial⟩, ⟨rfl, rfl, rfl, trivial⟩⟩
                · rintro ⟨c70, c71, c72, c73, c74, c75, c76⟩ H
                  replace H : gatelaw2_ClaimsDelegated_J6 l45 r54 c70 c71 c72 c73 c74 c75 c76 = some q47 := H
                  unfold gatelaw2_ClaimsDelegated_J6 at H
                  refine awp_plain hN rfl ?_
                  refine seq_run0 (stp_move (.row _ _) rfl) ?_
                  refine seq_run1 (stp_loadA tyS42 rfl rfl rfl) rfl ?_
                  refine seq_run0 (stp_dat (u' := vlst (List.map C_api_Claims [(S_api_Claims.mk c70 r54.1.Subject c71 c72 r54.1.Audience c73 r54.1.From c74)])) (stp_lit [_] tyL52 ⟨rfl, .inr rfl, rfl, trivial⟩ rfl rfl) rfl) ?_
                  obtain ⟨h77, H⟩ := gif H
                  refine seq_run2 (t_app tyL52 (fun _ => rfl) rfl rfl rfl ⟨by simp, by simpa using h77⟩ rfl) rfl ?_
                  refine seq_run0 (stp_assign (.row _ _) rfl) ?_
                  refine awp_plain hN rfl ?_
                  refine seq_run0 (stp_add rfl rfl (by omega)) ?_
                  refine seq_run0 (stp_move (.dat _) rfl) ?_
                  exact ⟨_, backl H, ⟨rfl, rfl, rfl, rfl, rfl, trivial⟩, ⟨rfl, rfl, trivial⟩⟩
          · rintro ⟨v78, c79, c80⟩ H
            replace H : gatelaw2_ClaimsDelegated_J4 v78 c79 c80 = some r := H
            unfold gatelaw2_ClaimsDelegated_J4 at H
            refine awp_joinZ (ι := (List S_api_Claims)) (fun i => [(13, .dat (vlst (List.map C_api_Claims i)))]) (fun i => []) (fun i => gatelaw2_ClaimsDelegated_J7 i = some r) (fun i => rfl) (fun i => rfl) ?_ ?_
            · skip
              refine awp_seq ?_
              refine awp_plain hN rfl ?_
              refine seq_run0 (stp_move (.ptr _ _) rfl) ?_
              obtain ⟨r81, h82, H⟩ := bnd H
              refine seq_run2 (stp_imp (k_gatemake_Stream_Flip (S_gatemake_Stream.mk c79 c80) 40 r81 h82) rfl ⟨.inl rfl, trivial⟩ rfl) rfl ?_
              refine awp_cond _ rfl (fun h83 => ?_) (fun h83 => ?_)
              · replace H := ift h83 H
                refine awp_plain hN rfl ?_
                refine seq_run0 (stp_move (.ptr _ _) rfl) ?_
                refine seq_run0 (stp_dat (u' := vlst (List.map C_int [0, 11])) (stp_lit [[_], [_]] tyL22 ⟨rfl, .inl ⟨_, rfl, rfl, rfl⟩, rfl, rfl, .inl ⟨_, rfl, rfl, rfl⟩, rfl, trivial⟩ rfl rfl) rfl) ?_
                obtain ⟨r84, h85, H⟩ := bnd H
                refine seq_run2 (stp_imp (k_gatemake_Stream_Pick r81.2 [0, 11] r84 h85) rfl ⟨.inl rfl, trivial⟩ rfl) rfl ?_
                obtain ⟨h86, H⟩ := gif H
                refine seq_run2 (t_makeW (C := C_api_Claims) 9 (S_api_Claims.mk [] [] [] [] [] [] 0 0) tyL52 tyZ42 rfl (by exact ⟨wk_rfl, wk_rfl, wk_rfl, wk_rfl, wk_nil, wk_nil, wk_rfl, wk_rfl, trivial⟩) rfl rfl h86 rfl) rfl ?_
                refine seq_run0 (stp_assign (.row _ _) rfl) ?_
                exact ⟨[(13, 9)], _, _, _, _, rfl, rfl, by simp, ⟨(List.replicate (r84.1.toNat) (S_api_Claims.mk [] [] [] [] [] [] 0 0)), H, ⟨.inl rfl, trivial⟩, trivial⟩⟩
              · replace H := iff_ h83 H
                refine awp_skip ?_
                exact ⟨[(13, 6)], _, _, _, _, rfl, rfl, by simp, ⟨v78, H, ⟨.inl rfl, trivial⟩, trivial⟩⟩
            · rintro v87 H
              replace H : gatelaw2_ClaimsDelegated_J7 v87 = some r := H
              unfold gatelaw2_ClaimsDelegated_J7 at H
              refine awp_joinE (ι := Bool) (fun i => [(2, .dat (vbool i))]) (fun i => []) (fun i => gatelaw2_ClaimsDelegated_J8 i = some r) (fun i => rfl) ?_ ?_
              · skip
                refine awp_plain hN rfl ?_
                refine seq_run0 (stp_move (.dat _) rfl) ?_
                obtain ⟨r88, h89, H⟩ := bnd H
                refine seq_run0 (stp_call (k_token_CheckChain v87 r88 h89) ⟨.inl rfl, trivial⟩) ?_
                refine seq_run0 (stp_move (.dat _) rfl) ?_
                obtain ⟨r90, h91, H⟩ := bnd H
                refine seq_run0 (stp_call (k_gateref2_ChainFault v87 r90 h91) ⟨.inl rfl, trivial⟩) ?_
                refine seq_run0 (stp_eql rfl rfl) ?_
                refine seq_run0 (stp_move (.dat _) rfl) ?_
                refine seq_split (j := 5) rfl rfl (fun h92 => ?_) (fun h92 => ?_) rfl
                · have h93 := un1 h92
                  replace H := ift h93 H
                  obtain ⟨r94, h95, H⟩ := bnd H
                  refine seq_g0 rfl rfl h92 (stp_call (k_gatelaw2_signed  r94 h95) trivial) ?_
                  refine seq_run0 (stp_pick_t rfl (bTT h93) rfl) ?_
                  refine seq_run0 (stp_assign (.dat _) rfl) ?_
                  exact ⟨r94, H, ⟨rfl, trivial⟩, trivial⟩
                · have h96 := un2 h92
                  replace H := iff_ h96 H
                  refine seq_skip rfl rfl h92 ?_
                  refine seq_run0 (stp_pick_f rfl (bFF h96) rfl) ?_
                  refine seq_run0 (stp_assign (.dat _) rfl) ?_
                  exact ⟨false, H, ⟨rfl, trivial⟩, trivial⟩
              · rintro v97 H
                replace H : gatelaw2_ClaimsDelegated_J8 v97 = some r := H
                unfold gatelaw2_ClaimsDelegated_J8 at H
                refine awp_ret ?_
                cases H
                exact ⟨trivial, .inl rfl, trivial⟩
end Go.Proofs.YtpeeeanmfmhlgaaGreatDoor
